import PyProof.Rows.All
import Wide.All
import OpenK.AllK
import Wide.FinOn
import HandS.ForExc
import HandS.ForMost
import HandS.Wide
import HandS.EndBits
import HandS.Codes
import HandS.Deep
import HandS.TupAny
import HandS.TupMul
import HandS.TupLe
import HandS.Flow
import HandS.Conv
import HandS.Style
import HandS.IsInst
import KE.SortData
import KE.DataEq
import HandS.TupSets
import KE.GoesMore
import HandS.DictComp
import KE.KDictSum
import KE.KTupSum
import KE.DataMinMax
import PyProof.TupleOfSeq
import HandS.SetFor
import HandS.Strs
import HandS.SetIn
import KE.KDictPairs
import PyProof.LongRange
import HandS.Small
import HandS.Text
import HandS.Exc
import HandS.ExcOwn
import HandS.ExcIs
import HandS.WordsExc
import PySem.Challenge.RW_cantmove_k72_whole_parks_taken_apart
set_option Elab.async false
set_option linter.all false
set_option autoImplicit false
set_option maxRecDepth 100000
set_option maxHeartbeats 4000000
namespace Z
open PySem L2

def Ext (F H : Hp) : Prop := ∀ a o, F a = some o → H a = some o
theorem Ext.refl (F : Hp) : Ext F F := fun _ _ h => h
theorem Ext.trans {F G H : Hp} (a : Ext F G) (b : Ext G H) : Ext F H := fun x o h => b x o (a x o h)
theorem Ext.up {F : Hp} {p : Addr} {o : HO} (h : F p = none) : Ext F (upd F p o) := fun a u e => by
  rw [upd_ne (ne_of_none e h)]
  exact e
theorem Ext.rd {F H : Hp} {a : Addr} {u : HO} (e : Ext F H) (h : Rd F a u) : Rd H a u := by
  rcases h with h | ⟨o, h⟩
  · exact .inl (e a _ h)
  · exact .inr ⟨o, e a _ h⟩
theorem Ext.l {K : PySem.W.Frag} {F H : Hp} {a : Addr} {xs : List V} (e : Ext F H) (h : SqL K F a xs) : SqL K H a xs := h.elim (fun z => .inl (e.rd z)) .inr
theorem Ext.t {K : PySem.W.Frag} {F H : Hp} {a : Addr} {xs : List V} (e : Ext F H) (h : SqT K F a xs) : SqT K H a xs := h.elim (fun z => .inl (e.rd z)) .inr

mutual
theorem dpUp {K : PySem.W.Frag} {F H : Hp} (e : Ext F H) : ∀ (d : PyData) (v : V), Dp K F v d → Dp K H v d
  | .none, _, h => by cases h; exact .non
  | .bool b, _, h => by cases h; exact .bl b
  | .int i, _, h => by cases h; exact .int i
  | .str x, _, h => by cases h; exact .str x
  | .list ds, _, h => by
    cases h with
    | lst hs ha => exact .lst (e.l hs) (dpsUp e ds _ ha)
  | .tuple ds, _, h => by
    cases h with
    | tup hs ha => exact .tup (e.t hs) (dpsUp e ds _ ha)
  | .dict _, _, h => by cases h
theorem dpsUp {K : PySem.W.Frag} {F H : Hp} (e : Ext F H) : ∀ (ds : List PyData) (vs : List V), DpAll K F vs ds → DpAll K H vs ds
  | [], _, h => by cases h; exact .nil
  | d :: ds, _, h => by
    cases h with
    | cons h1 h2 => exact .cons (dpUp e d _ h1) (dpsUp e ds _ h2)
end
theorem dpsLen {K : PySem.W.Frag} {F : Hp} : ∀ {ds : List PyData} {vs : List V}, DpAll K F vs ds → vs.length = ds.length
  | [], _, h => by cases h; rfl
  | d :: ds, _, h => by
    cases h with
    | cons h1 h2 => simp [dpsLen h2]
theorem dpsGet {K : PySem.W.Frag} {F : Hp} : ∀ {ds : List PyData} {vs : List V} {i : Nat} {x : PyData}, DpAll K F vs ds → ds[i]? = some x → ∃ v, vs[i]? = some v ∧ Dp K F v x
  | [], _, i, x, h, e => by simp at e
  | d :: ds, _, 0, x, h, e => by
    cases h with
    | cons h1 h2 => simp at e; subst e; exact ⟨_, rfl, h1⟩
  | d :: ds, _, i + 1, x, h, e => by
    cases h with
    | cons h1 h2 =>
      rw [List.getElem?_cons_succ] at e
      obtain ⟨v, h3, h4⟩ := dpsGet h2 e
      exact ⟨v, by rw [List.getElem?_cons_succ]; exact h3, h4⟩
theorem dpsApp {K : PySem.W.Frag} {F : Hp} : ∀ {ds es : List PyData} {vs ws : List V}, DpAll K F vs ds → DpAll K F ws es → DpAll K F (vs ++ ws) (ds ++ es)
  | [], _, _, _, h, g => by cases h; exact g
  | d :: ds, _, _, _, h, g => by
    cases h with
    | cons h1 h2 => exact .cons h1 (dpsApp h2 g)
theorem dpsTake {K : PySem.W.Frag} {F : Hp} : ∀ {ds : List PyData} {vs : List V} (n : Nat), DpAll K F vs ds → DpAll K F (vs.take n) (ds.take n)
  | _, _, 0, _ => .nil
  | [], _, n + 1, h => by cases h; exact .nil
  | d :: ds, _, n + 1, h => by
    cases h with
    | cons h1 h2 => exact .cons h1 (dpsTake n h2)
theorem dpsDrop {K : PySem.W.Frag} {F : Hp} : ∀ {ds : List PyData} {vs : List V} (n : Nat), DpAll K F vs ds → DpAll K F (vs.drop n) (ds.drop n)
  | _, _, 0, h => h
  | [], _, n + 1, h => by cases h; exact .nil
  | d :: ds, _, n + 1, h => by
    cases h with
    | cons h1 h2 => exact dpsDrop n h2
theorem dpsRev {K : PySem.W.Frag} {F : Hp} : ∀ {ds : List PyData} {vs : List V}, DpAll K F vs ds → DpAll K F vs.reverse ds.reverse
  | [], _, h => by cases h; exact .nil
  | d :: ds, _, h => by
    cases h with
    | cons h1 h2 => rw [List.reverse_cons, List.reverse_cons]; exact dpsApp (dpsRev h2) (.cons h1 .nil)
/-- a thing of its own: what is true of it (the frozen heap, the heap, the value, its addresses) -/
structure Own where
  holds : PySem.W.Frag → Hp → Hp → V → List Addr → Prop
  stay : ∀ {K : PySem.W.Frag} {F F' H H' : Hp} {v : V} {fp : List Addr}, holds K F H v fp → Ext F F' → (∀ a ∈ fp, ∀ o, H a = some o → H' a = some o) → holds K F' H' v fp

inductive IT where
  | un | d (x : PyData) | o (P : Own)
/-- an entry: what it is, its value -/
abbrev En := IT × Option V
def Ent (K : PySem.W.Frag) (F H : Hp) : IT → Option V → List Addr → Prop
  | .un, _, fp => fp = []
  | .d x, v, fp => fp = [] ∧ ∃ u, v = some u ∧ Dp K F u x
  | .o P, v, fp => ∃ u, v = some u ∧ P.holds K F H u fp
abbrev EF := En × List Addr
def fpsOf (L : List EF) : List Addr := L.flatMap (·.2)
structure Held (K : PySem.W.Frag) (F H : Hp) (L : List EF) : Prop where
  ext : Ext F H
  ent : ∀ x ∈ L, Ent K F H x.1.1 x.1.2 x.2
  nd : (fpsOf L).Nodup
  own : ∀ a ∈ fpsOf L, F a = none ∧ ∃ o, H a = some o
def OK (K : PySem.W.Frag) (l : List En) (H : Hp) : Prop := ∃ F L, L.map (·.1) = l ∧ Held K F H L

theorem mem_fps {L : List EF} {a : Addr} : a ∈ fpsOf L ↔ ∃ x ∈ L, a ∈ x.2 := by
  unfold fpsOf
  rw [List.mem_flatMap]
theorem Ent.up {K : PySem.W.Frag} {F F' H H' : Hp} (e : Ext F F') : ∀ {i : IT} {v : Option V} {fp : List Addr}, Ent K F H i v fp → (∀ a ∈ fp, ∀ o, H a = some o → H' a = some o) → Ent K F' H' i v fp
  | .un, _, _, h, _ => h
  | .d x, _, _, ⟨h1, u, h2, h3⟩, _ => ⟨h1, u, h2, dpUp e x u h3⟩
  | .o P, _, _, ⟨u, h1, h2⟩, k => ⟨u, h1, P.stay h2 e k⟩

section
variable {K : PySem.W.Frag} {H H' : Hp} {l l' : List En}

theorem lift_perm : ∀ {l l' : List En} (p : l.Perm l') {L : List EF}, L.map (·.1) = l → ∃ L', L'.map (·.1) = l' ∧ L.Perm L' := by
  intro l l' p
  induction p with
  | nil => intro L h; exact ⟨L, h, .refl _⟩
  | cons x p ih =>
    intro L h
    cases L with
    | nil => simp at h
    | cons y L =>
      simp at h
      obtain ⟨h1, h2⟩ := h
      obtain ⟨L', e, q⟩ := ih h2
      exact ⟨y :: L', by simp [h1, e], q.cons y⟩
  | swap x y l =>
    intro L h
    match L, h with
    | a :: b :: L, h =>
      simp at h
      obtain ⟨h1, h2, h3⟩ := h
      exact ⟨b :: a :: L, by simp [h1, h2, h3], List.Perm.swap b a L⟩
  | trans p q ih1 ih2 =>
    intro L h
    obtain ⟨L1, e1, q1⟩ := ih1 h
    obtain ⟨L2, e2, q2⟩ := ih2 e1
    exact ⟨L2, e2, q1.trans q2⟩
theorem fps_perm {L L' : List EF} (p : L.Perm L') : (fpsOf L).Perm (fpsOf L') := by
  unfold fpsOf
  exact List.Perm.flatMap_right _ p
theorem Held.perm {F : Hp} {L L' : List EF} (p : L.Perm L') (h : Held K F H L) : Held K F H L' :=
  ⟨h.ext, fun x hx => h.ent x (p.mem_iff.mpr hx), (fps_perm p).nodup_iff.mp h.nd, fun a ha => h.own a ((fps_perm p).mem_iff.mpr ha)⟩
theorem OK.perm (p : l.Perm l') (h : OK K l H) : OK K l' H := by
  obtain ⟨F, L, e, g⟩ := h
  obtain ⟨L', e', q⟩ := lift_perm p e
  exact ⟨F, L', e', g.perm q⟩
theorem Held.tail {F : Hp} {x : EF} {L : List EF} (h : Held K F H (x :: L)) : Held K F H L :=
  ⟨h.ext, fun y hy => h.ent y (List.mem_cons_of_mem _ hy), (by
    have := h.nd
    unfold fpsOf at this
    rw [List.flatMap_cons] at this
    exact (List.nodup_append.mp this).2.1), fun a ha => h.own a (by
    unfold fpsOf
    rw [List.flatMap_cons]
    exact List.mem_append_right _ ha)⟩
theorem OK.tail {x : En} (h : OK K (x :: l) H) : OK K l H := by
  obtain ⟨F, L, e, g⟩ := h
  cases L with
  | nil => simp at e
  | cons y L => simp at e; exact ⟨F, L, e.2, g.tail⟩
theorem OK.right {k : List En} (h : OK K (k ++ l) H) : OK K l H := by
  induction k with
  | nil => exact h
  | cons x k ih => exact ih (OK.tail h)
theorem OK.left {k : List En} (h : OK K (l ++ k) H) : OK K l H := OK.right (k := k) (h.perm List.perm_append_comm)
theorem set_perm {α : Type} : ∀ {l : List α} {i : Nat} {y x : α}, l[i]? = some y → (x :: l).Perm (y :: l.set i x)
  | [], i, y, x, h => by simp at h
  | a :: l, 0, y, x, h => by
    simp at h
    subst h
    exact List.Perm.swap _ _ _
  | a :: l, i + 1, y, x, h => by
    have ih := set_perm (l := l) (i := i) (y := y) (x := x) (by simpa using h)
    rw [List.set_cons_succ]
    exact (List.Perm.swap a x l).trans ((ih.cons a).trans (List.Perm.swap y a _))
/-- a new entry in the place of the i-th -/
theorem OK.set {x : En} (i : Nat) (h : OK K (x :: l) H) : OK K (l.set i x) H := by
  cases e : l[i]? with
  | none =>
    rw [List.set_eq_of_length_le (List.getElem?_eq_none_iff.mp e)]
    exact h.tail
  | some y => exact (h.perm (set_perm e)).tail
/-- the i-th entry to the front, another in its place -/
theorem Held.unCons {F : Hp} {L : List EF} {v : Option V} (h : Held K F H L) : Held K F H (((IT.un, v), []) :: L) :=
  ⟨h.ext, fun y hy => by
    rcases List.mem_cons.mp hy with e | e
    · subst e; rfl
    · exact h.ent y e, by unfold fpsOf; rw [List.flatMap_cons]; exact h.nd, fun a ha => h.own a (by unfold fpsOf at ha ⊢; rw [List.flatMap_cons] at ha; exact ha)⟩
theorem OK.un {v : Option V} (h : OK K l H) : OK K ((IT.un, v) :: l) H := by
  obtain ⟨F, L, e, g⟩ := h
  exact ⟨F, ((IT.un, v), []) :: L, by rw [List.map_cons, e], g.unCons⟩
theorem OK.out {i : Nat} {x : IT} {v : Option V} (e : l[i]? = some (x, v)) (h : OK K l H) : OK K ((x, v) :: l.set i (IT.un, v)) H := (h.un (v := v)).perm (set_perm e)
/-- a known datum once more -/
theorem Held.dCons {F : Hp} {L : List EF} {v : V} {x : PyData} (h : Held K F H L) (hd : Dp K F v x) : Held K F H (((IT.d x, some v), []) :: L) :=
  ⟨h.ext, fun y hy => by
    rcases List.mem_cons.mp hy with e | e
    · subst e; exact ⟨rfl, v, rfl, hd⟩
    · exact h.ent y e, by unfold fpsOf; rw [List.flatMap_cons]; exact h.nd, fun a ha => h.own a (by unfold fpsOf at ha ⊢; rw [List.flatMap_cons] at ha; exact ha)⟩
theorem mem_map1 {L : List EF} {y : En} (h : y ∈ L.map (·.1)) : ∃ fp, (y, fp) ∈ L := by
  obtain ⟨z, hz, e⟩ := List.mem_map.mp h
  exact ⟨z.2, by rw [← e]; exact hz⟩
theorem OK.dup {x : PyData} {v : Option V} (m : (IT.d x, v) ∈ l) (h : OK K l H) : ∃ u, v = some u ∧ Dp K H u x ∧ OK K ((IT.d x, some u) :: l) H := by
  obtain ⟨F, L, e, g⟩ := h
  subst e
  obtain ⟨fp, hm⟩ := mem_map1 m
  obtain ⟨_, u, e1, hd⟩ := g.ent _ hm
  exact ⟨u, e1, dpUp g.ext x u hd, F, _, by simp, g.dCons hd⟩
/-- plain values need nothing of the heap -/
def flat : V → PyData → Prop
  | .non, .none => True
  | .bl b, .bool c => b = c
  | .int i, .int j => i = j
  | .str x, .str y => x = y
  | _, _ => False
theorem flatDp {F : Hp} {v : V} {x : PyData} (h : flat v x) : Dp K F v x := by
  cases v <;> cases x <;> first | exact h.elim | skip
  · exact .non
  · have e : _ = _ := h; subst e; exact .bl _
  · have e : _ = _ := h; subst e; exact .int _
  · have e : _ = _ := h; subst e; exact .str _
theorem OK.flat {x : PyData} {v : V} (f : flat v x) (h : OK K l H) : OK K ((IT.d x, some v) :: l) H := by
  obtain ⟨F, L, e, g⟩ := h
  exact ⟨F, _, by simp [e], g.dCons (flatDp f)⟩

def ds2 (ds : List PyData) (vs : List V) : List En := List.zipWith (fun x v => (IT.d x, some v)) ds vs
theorem held_ds {F : Hp} : ∀ {ds : List PyData} {vs : List V} {L : List EF}, ds.length = vs.length → L.map (·.1) = ds2 ds vs ++ l → Held K F H L → DpAll K F vs ds
  | [], [], L, _, _, _ => .nil
  | d :: ds, v :: vs, L, h, e, g => by
    cases L with
    | nil => simp [ds2] at e
    | cons y L =>
      simp only [ds2, List.zipWith_cons_cons, List.map_cons, List.cons_append, List.cons.injEq] at e
      obtain ⟨e1, e2⟩ := e
      have k := g.ent y List.mem_cons_self
      rw [e1] at k
      obtain ⟨_, u, eu, hd⟩ := k
      cases eu
      exact .cons hd (held_ds (by simpa using h) e2 g.tail)
  | [], v :: vs, L, h, _, _ => by simp at h
  | d :: ds, [], L, h, _, _ => by simp at h
theorem Held.grow {F F' : Hp} {L : List EF} (h : Held K F H L) (e1 : Ext F F') (e2 : Ext F' H') (k : ∀ a ∈ fpsOf L, ∀ o, H a = some o → H' a = some o) (n : ∀ a ∈ fpsOf L, F' a = none) : Held K F' H' L :=
  ⟨e2, fun x hx => (h.ent x hx).up e1 fun a ha o ho => k a (mem_fps.mpr ⟨x, hx, ha⟩) o ho, h.nd, fun a ha => ⟨n a ha, by
    obtain ⟨o, ho⟩ := (h.own a ha).2
    exact ⟨o, k a ha o ho⟩⟩⟩
theorem ext_none {F : Hp} {p : Addr} (e : Ext F H) (h : H p = none) : F p = none := by
  cases q : F p with
  | none => rfl
  | some o => rw [e p o q] at h; cases h
/-- a new thing laid, of the frozen part -/
theorem Held.frozen {F : Hp} {L : List EF} {p : Addr} {o : HO} (h : Held K F H L) (hp : H p = none) : Held K (upd F p o) (upd H p o) L := by
  have np : ∀ a ∈ fpsOf L, a ≠ p := fun a ha z => by
    obtain ⟨u, hu⟩ := (h.own a ha).2
    rw [z, hp] at hu
    cases hu
  refine h.grow (Ext.up (ext_none h.ext hp)) (fun a u q => ?_) (fun a ha u hu => ?_) fun a ha => ?_
  · by_cases e : a = p
    · subst e; rw [upd_same] at q ⊢; exact q
    · rw [upd_ne e] at q ⊢; exact h.ext a u q
  · rw [upd_ne (np a ha)]; exact hu
  · rw [upd_ne (np a ha)]; exact (h.own a ha).1
/-- .. of its own -/
theorem Held.fresh {F : Hp} {L : List EF} {p : Addr} {o : HO} (h : Held K F H L) (hp : H p = none) : Held K F (upd H p o) L :=
  h.grow (Ext.refl F) (fun a u q => by
    have e := h.ext a u q
    rw [upd_ne (ne_of_none e hp)]
    exact e) (fun a ha u hu => by rw [upd_ne (ne_of_none hu hp)]; exact hu) fun a ha => (h.own a ha).1
theorem OK.split {k : List En} (h : OK K (k ++ l) H) : ∃ F L1 L2, L1.map (·.1) = k ∧ L2.map (·.1) = l ∧ Held K F H (L1 ++ L2) := by
  obtain ⟨F, L, e, g⟩ := h
  obtain ⟨L1, L2, e1, e2, e3⟩ := List.map_eq_append_iff.mp e
  subst e1
  exact ⟨F, L1, L2, e2, e3, g⟩
theorem Held.right {F : Hp} {L1 L2 : List EF} (h : Held K F H (L1 ++ L2)) : Held K F H L2 := by
  induction L1 with
  | nil => exact h
  | cons x L ih => exact ih h.tail
theorem OK.tup {ds : List PyData} {vs : List V} {p : Addr} (hl : ds.length = vs.length) (h : OK K (ds2 ds vs ++ l) H) (hp : H p = none) : OK K ((IT.d (.tuple ds), some (.ref p)) :: l) (upd H p (.tup vs)) := by
  obtain ⟨F, L1, L2, e1, e2, g⟩ := h.split
  have q : DpAll K F vs ds := held_ds (l := l) hl (by rw [List.map_append, e1, e2]) g
  have q2 : DpAll K (upd F p (.tup vs)) vs ds := dpsUp (Ext.up (ext_none g.ext hp)) ds vs q
  exact ⟨_, _, by simp [e2], (g.right.frozen hp).dCons (.tup (.of upd_same) q2)⟩
/-- a list of its own -/
def OL (ds : List PyData) : Own where
  holds := fun K F H v fp => ∃ p vs, v = .ref p ∧ fp = [p] ∧ H p = some (.lst vs) ∧ DpAll K F vs ds
  stay := fun ⟨p, vs, e1, e2, e3, e4⟩ e k => ⟨p, vs, e1, e2, k p (by rw [e2]; simp) _ e3, dpsUp e _ _ e4⟩
theorem Held.oCons {F : Hp} {L : List EF} {v : V} {P : Own} {fp : List Addr} (h : Held K F H L) (hP : P.holds K F H v fp) (nd : fp.Nodup) (dj : ∀ a ∈ fp, a ∉ fpsOf L) (ow : ∀ a ∈ fp, F a = none ∧ ∃ o, H a = some o) : Held K F H (((IT.o P, some v), fp) :: L) := by
  refine ⟨h.ext, fun y hy => ?_, ?_, fun a ha => ?_⟩
  · rcases List.mem_cons.mp hy with e | e
    · subst e; exact ⟨v, rfl, hP⟩
    · exact h.ent y e
  · unfold fpsOf
    rw [List.flatMap_cons]
    exact List.nodup_append.mpr ⟨nd, h.nd, fun a ha b hb z => dj a ha (by rw [z]; exact hb)⟩
  · unfold fpsOf at ha
    rw [List.flatMap_cons] at ha
    rcases List.mem_append.mp ha with ha | ha
    · exact ow a ha
    · exact h.own a ha
theorem OK.lst {ds : List PyData} {vs : List V} {p : Addr} (hl : ds.length = vs.length) (h : OK K (ds2 ds vs ++ l) H) (hp : H p = none) : OK K ((IT.o (OL ds), some (.ref p)) :: l) (upd H p (.lst vs)) := by
  obtain ⟨F, L1, L2, e1, e2, g⟩ := h.split
  have q : DpAll K F vs ds := held_ds (l := l) hl (by rw [List.map_append, e1, e2]) g
  have g2 := g.right.fresh (o := .lst vs) hp
  refine ⟨F, _, by simp [e2], g2.oCons (v := .ref p) (P := OL ds) (fp := [p]) ⟨p, vs, rfl, rfl, upd_same, q⟩ (by simp) (fun a ha hb => ?_) fun a ha => ?_⟩
  · have e : a = p := by simpa using ha
    subst e
    obtain ⟨u, hu⟩ := (g.right.own a hb).2
    rw [hp] at hu
    cases hu
  · have e : a = p := by simpa using ha
    subst e
    exact ⟨ext_none g.ext hp, _, upd_same⟩
/-- an owned thing at the front is changed at addresses of its own -/
theorem Held.change {F : Hp} {L : List EF} {v : V} {P Q : Own} {fp : List Addr} (h : Held K F H (((IT.o P, some v), fp) :: L)) (hQ : Q.holds K F H' v fp) (k : ∀ a o, a ∉ fp → H a = some o → H' a = some o) (t : ∀ a ∈ fp, ∃ o, H' a = some o) :
    Held K F H' (((IT.o Q, some v), fp) :: L) := by
  have nd := h.nd
  unfold fpsOf at nd
  rw [List.flatMap_cons] at nd
  obtain ⟨n1, n2, n3⟩ := List.nodup_append.mp nd
  have own : ∀ a ∈ fp, F a = none := fun a ha => (h.own a (mem_fps.mpr ⟨_, List.mem_cons_self, ha⟩)).1
  refine (h.tail.grow (Ext.refl F) (fun a u q => k a u (fun z => by rw [own a z] at q; cases q) (h.ext a u q)) (fun a ha u hu => k a u (fun z => n3 a z a ha rfl) hu) fun a ha => (h.tail.own a ha).1).oCons hQ n1 (fun a ha hb => n3 a ha a hb rfl) fun a ha => ⟨own a ha, t a ha⟩
end
end Z

namespace Z
open PySem L2

def Fz (K : PySem.W.Frag) (F : Hp) (l : List En) (H : Hp) : Prop := ∃ L, L.map (·.1) = l ∧ Held K F H L
section
variable {K : PySem.W.Frag} {H H' F : Hp} {l l' : List En}
theorem OK.fz (h : OK K l H) : ∃ F, Fz K F l H := let ⟨F, L, e, g⟩ := h; ⟨F, L, e, g⟩
theorem Fz.ok (h : Fz K F l H) : OK K l H := let ⟨L, e, g⟩ := h; ⟨F, L, e, g⟩
theorem Fz.ext (h : Fz K F l H) : Ext F H := let ⟨_, _, g⟩ := h; g.ext
theorem Fz.perm (p : l.Perm l') (h : Fz K F l H) : Fz K F l' H := by
  obtain ⟨L, e, g⟩ := h
  obtain ⟨L', e', q⟩ := lift_perm p e
  exact ⟨L', e', g.perm q⟩
theorem Fz.tail {x : En} (h : Fz K F (x :: l) H) : Fz K F l H := by
  obtain ⟨L, e, g⟩ := h
  cases L with
  | nil => simp at e
  | cons y L => simp at e; exact ⟨L, e.2, g.tail⟩
theorem Fz.at {x : PyData} {v : Option V} (h : Fz K F l H) (m : (IT.d x, v) ∈ l) : ∃ u, v = some u ∧ Dp K F u x := by
  obtain ⟨L, e, g⟩ := h
  subst e
  obtain ⟨fp, hm⟩ := mem_map1 m
  obtain ⟨_, u, e1, hd⟩ := g.ent _ hm
  exact ⟨u, e1, hd⟩
theorem Fz.own {P : Own} {v : Option V} (h : Fz K F l H) (m : (IT.o P, v) ∈ l) : ∃ u fp, v = some u ∧ P.holds K F H u fp := by
  obtain ⟨L, e, g⟩ := h
  subst e
  obtain ⟨fp, hm⟩ := mem_map1 m
  obtain ⟨u, e1, hd⟩ := g.ent _ hm
  exact ⟨u, fp, e1, hd⟩
theorem Fz.add {x : PyData} {v : V} (h : Fz K F l H) (d : Dp K F v x) : Fz K F ((IT.d x, some v) :: l) H := by
  obtain ⟨L, e, g⟩ := h
  exact ⟨(((IT.d x, some v), []) :: L), by rw [List.map_cons, e], g.dCons d⟩
theorem Fz.un {v : Option V} (h : Fz K F l H) : Fz K F ((IT.un, v) :: l) H := by
  obtain ⟨L, e, g⟩ := h
  exact ⟨(((IT.un, v), []) :: L), by rw [List.map_cons, e], g.unCons⟩
theorem Fz.tup {ds : List PyData} {vs : List V} {p : Addr} (h : Fz K F l H) (q : DpAll K F vs ds) (hp : H p = none) : OK K ((IT.d (.tuple ds), some (.ref p)) :: l) (upd H p (.tup vs)) := by
  obtain ⟨L, e, g⟩ := h
  have q2 : DpAll K (upd F p (.tup vs)) vs ds := dpsUp (Ext.up (ext_none g.ext hp)) ds vs q
  exact ⟨_, _, by rw [List.map_cons, e], (g.frozen hp).dCons (v := .ref p) (.tup (.of upd_same) q2)⟩
/-- a new thing of its own, at one address -/
theorem Fz.newO {P : Own} {o : HO} {p : Addr} (h : Fz K F l H) (hp : H p = none) (hP : P.holds K F (upd H p o) (.ref p) [p]) : OK K ((IT.o P, some (.ref p)) :: l) (upd H p o) := by
  obtain ⟨L, e, g⟩ := h
  refine ⟨F, _, by rw [List.map_cons, e], (g.fresh (o := o) hp).oCons (v := .ref p) (P := P) (fp := [p]) hP (by simp) (fun a ha hb => ?_) fun a ha => ?_⟩
  · have e : a = p := by simpa using ha
    subst e
    obtain ⟨u, hu⟩ := (g.own a hb).2
    rw [hp] at hu
    cases hu
  · have e : a = p := by simpa using ha
    subst e
    exact ⟨ext_none g.ext hp, _, upd_same⟩
theorem Fz.lstO {ds : List PyData} {vs : List V} {p : Addr} (h : Fz K F l H) (q : DpAll K F vs ds) (hp : H p = none) : OK K ((IT.o (OL ds), some (.ref p)) :: l) (upd H p (.lst vs)) :=
  h.newO hp ⟨p, vs, rfl, rfl, upd_same, q⟩
/-- the list at the front is another one -/
theorem Fz.putL {ds ds' : List PyData} {v : V} (h : Fz K F ((IT.o (OL ds), some v) :: l) H) : ∃ p vs, v = .ref p ∧ H p = some (.lst vs) ∧ DpAll K F vs ds ∧
    ∀ ds' vs', DpAll K F vs' ds' → OK K ((IT.o (OL ds'), some v) :: l) (upd H p (.lst vs')) := by
  obtain ⟨L, e, g⟩ := h
  cases L with
  | nil => simp at e
  | cons y L =>
    obtain ⟨y1, fp⟩ := y
    simp at e
    obtain ⟨e1, e2⟩ := e
    subst e1
    obtain ⟨u, e3, p, vs, e4, e5, e6, e7⟩ := g.ent _ List.mem_cons_self
    have e3' : v = u := Option.some.inj e3
    subst e3'
    have e5' : fp = [p] := e5
    subst e5'
    refine ⟨p, vs, e4, e6, e7, fun ds' vs' q => ⟨F, _, ?_, g.change (H' := upd H p (.lst vs')) (Q := OL ds') ⟨p, vs', e4, rfl, upd_same, q⟩ (fun a o ha ho => ?_) fun a ha => ?_⟩⟩
    · rw [List.map_cons, e2]
    · rw [upd_ne (by simpa using ha)]; exact ho
    · have e : a = p := by simpa using ha
      subst e
      exact ⟨_, upd_same⟩
/-- the list at the front is kept for good -/
theorem Fz.freeze {ds : List PyData} {v : V} (h : Fz K F ((IT.o (OL ds), some v) :: l) H) : OK K ((IT.d (.list ds), some v) :: l) H := by
  obtain ⟨L, e, g⟩ := h
  cases L with
  | nil => simp at e
  | cons y L =>
    obtain ⟨y1, fp⟩ := y
    simp at e
    obtain ⟨e1, e2⟩ := e
    subst e1
    obtain ⟨u, e3, p, vs, e4, e5, e6, e7⟩ := g.ent _ List.mem_cons_self
    have e3' : v = u := Option.some.inj e3
    subst e3'
    have e5' : fp = [p] := e5
    subst e5'
    have nF : F p = none := (g.own p (mem_fps.mpr ⟨_, List.mem_cons_self, by simp⟩)).1
    have nd := g.nd
    unfold fpsOf at nd
    rw [List.flatMap_cons] at nd
    obtain ⟨_, _, n3⟩ := List.nodup_append.mp nd
    have g2 : Held K (upd F p (.lst vs)) H L := g.tail.grow (Ext.up nF) (fun a o q => by
      by_cases ea : a = p
      · subst ea; rw [upd_same] at q; cases q; exact e6
      · rw [upd_ne ea] at q; exact g.ext a o q) (fun _ _ _ q => q) fun a ha => by
        rw [upd_ne (fun z => n3 p (by simp) a ha z.symm)]
        exact (g.tail.own a ha).1
    refine ⟨upd F p (.lst vs), (((IT.d (.list ds), some v), []) :: L), by rw [List.map_cons, e2], g2.dCons ?_⟩
    subst e4
    exact .lst (.of upd_same) (dpsUp (Ext.up nF) _ _ e7)
end

inductive SD where
  | un | d (x : PyData) | r (j : Nat)
def itOf : SD → IT
  | .d x => .d x
  | _ => .un
structure S where
  e : List SD
  R : List Own
def ES (e : List SD) (σ : L2.St) : List En := List.zipWith (fun s v => (itOf s, v)) e σ
def RS (R : List Own) (ρ : List V) : List En := List.zipWith (fun P v => (IT.o P, some v)) R ρ
structure Sat (K : PySem.W.Frag) (s : S) (σ : L2.St) (ρ : List V) (T : List En) (H : Hp) : Prop where
  le : s.e.length = σ.length
  lr : s.R.length = ρ.length
  al : ∀ (i j : Nat), s.e[i]? = some (SD.r j) → ∃ v : V, σ[i]? = some (some v) ∧ ρ[j]? = some v
  ok : OK K (T ++ (ES s.e σ ++ RS s.R ρ)) H
/-- a value that is a reference is the one of the store -/
def VR (r : SD) (ρ : List V) (v : V) : Prop := match r with
  | .r j => ρ[j]? = some v
  | _ => True
theorem VR.mono {r : SD} {ρ ρ' : List V} {v : V} (h : VR r ρ v) (p : ρ <+: ρ') : VR r ρ' v := by
  cases r with
  | r j =>
    obtain ⟨m, rfl⟩ := p
    have h' : ρ[j]? = some v := h
    show (ρ ++ m)[j]? = some v
    rw [List.getElem?_append_left (List.getElem?_eq_some_iff.mp h').1]
    exact h'
  | _ => trivial

theorem es_get {e : List SD} {σ : L2.St} {i : Nat} {a : SD} {v : Option V} (h1 : e[i]? = some a) (h2 : σ[i]? = some v) : (ES e σ)[i]? = some (itOf a, v) := by
  unfold ES
  rw [List.getElem?_zipWith, h1, h2]
theorem rs_get {R : List Own} {ρ : List V} {i : Nat} {P : Own} {v : V} (h1 : R[i]? = some P) (h2 : ρ[i]? = some v) : (RS R ρ)[i]? = some (IT.o P, some v) := by
  unfold RS
  rw [List.getElem?_zipWith, h1, h2]
theorem get_of_len {α β : Type} {l : List α} {m : List β} (h : l.length = m.length) {i : Nat} {a : α} (e : l[i]? = some a) : ∃ b, m[i]? = some b := by
  obtain ⟨hi, _⟩ := List.getElem?_eq_some_iff.mp e
  exact ⟨m[i]'(by omega), List.getElem?_eq_getElem (by omega)⟩
section
variable {K : PySem.W.Frag} {s : S} {σ : L2.St} {ρ : List V} {T : List En} {H : Hp}
theorem Sat.tperm {T' : List En} (p : T.Perm T') (h : Sat K s σ ρ T H) : Sat K s σ ρ T' H := ⟨h.le, h.lr, h.al, h.ok.perm (p.append_right _)⟩
theorem Sat.tdrops {T1 : List En} (h : Sat K s σ ρ (T1 ++ T) H) : Sat K s σ ρ T H := ⟨h.le, h.lr, h.al, OK.right (k := T1) (by rw [← List.append_assoc]; exact h.ok)⟩
theorem Sat.slot {i : Nat} {x : PyData} (h : Sat K s σ ρ T H) (e : s.e[i]? = some (SD.d x)) : ∃ v : V, σ[i]? = some (some v) ∧ Sat K s σ ρ ((IT.d x, some v) :: T) H := by
  obtain ⟨ov, h2⟩ := get_of_len h.le e
  have m : (IT.d x, ov) ∈ T ++ (ES s.e σ ++ RS s.R ρ) := List.mem_append_right _ (List.mem_append_left _ (List.mem_of_getElem? (es_get e h2)))
  obtain ⟨u, e1, _, ok⟩ := h.ok.dup m
  subst e1
  exact ⟨u, h2, h.le, h.lr, h.al, ok⟩
/-- a store to a slot, of the value on top -/
theorem Sat.put {i : Nat} {r : SD} {v : V} (hi : i < s.e.length) (vr : VR r ρ v) (h : Sat K s σ ρ ((itOf r, some v) :: T) H) : Sat K ⟨s.e.set i r, s.R⟩ (σ.set i (some v)) ρ T H := by
  have hσ : i < σ.length := by rw [← h.le]; exact hi
  refine ⟨by simp [h.le], h.lr, fun k j e => ?_, ?_⟩
  · by_cases hk : k = i
    · subst hk
      simp only [List.getElem?_set_self hi, Option.some.injEq] at e
      subst e
      exact ⟨v, by rw [List.getElem?_set_self hσ], vr⟩
    · simp only [List.getElem?_set_ne (Ne.symm hk)] at e
      obtain ⟨w, e1, e2⟩ := h.al k j e
      exact ⟨w, by rw [List.getElem?_set_ne (Ne.symm hk)]; exact e1, e2⟩
  · have q : ES (s.e.set i r) (σ.set i (some v)) = (ES s.e σ).set i (itOf r, some v) := by
      unfold ES
      apply List.ext_getElem?
      intro k
      rw [List.getElem?_zipWith]
      by_cases hk : k = i
      · subst hk
        rw [List.getElem?_set_self hi, List.getElem?_set_self hσ, List.getElem?_set_self (by rw [List.length_zipWith]; omega)]
      · rw [List.getElem?_set_ne (Ne.symm hk), List.getElem?_set_ne (Ne.symm hk), List.getElem?_set_ne (Ne.symm hk), List.getElem?_zipWith]
    have hz : i < (ES s.e σ).length := by unfold ES; rw [List.length_zipWith]; omega
    have k : OK K ((T ++ (ES s.e σ ++ RS s.R ρ)).set (T.length + i) (itOf r, some v)) H := OK.set (T.length + i) h.ok
    rw [List.set_append_right _ _ (Nat.le_add_right _ _), Nat.add_sub_cancel_left, List.set_append_left _ _ hz, ← q] at k
    exact k
/-- a new object for the store, from the top -/
theorem Sat.push {P : Own} {v : V} (h : OK K ((IT.o P, some v) :: (T ++ (ES s.e σ ++ RS s.R ρ))) H) (le : s.e.length = σ.length) (lr : s.R.length = ρ.length) (al : ∀ (i j : Nat), s.e[i]? = some (SD.r j) → ∃ v : V, σ[i]? = some (some v) ∧ ρ[j]? = some v) :
    Sat K ⟨s.e, s.R ++ [P]⟩ σ (ρ ++ [v]) T H := by
  refine ⟨le, by simp [lr], fun i j e => ?_, ?_⟩
  · obtain ⟨w, e1, e2⟩ := al i j e
    exact ⟨w, e1, by rw [List.getElem?_append_left (List.getElem?_eq_some_iff.mp e2).1]; exact e2⟩
  · have q : RS (s.R ++ [P]) (ρ ++ [v]) = RS s.R ρ ++ [(IT.o P, some v)] := by
      unfold RS
      rw [List.zipWith_append lr]
      rfl
    rw [show (⟨s.e, s.R ++ [P]⟩ : S).R = s.R ++ [P] from rfl, q]
    refine h.perm ?_
    show ((IT.o P, some v) :: (T ++ (ES s.e σ ++ RS s.R ρ))).Perm (T ++ (ES s.e σ ++ (RS s.R ρ ++ [(IT.o P, some v)])))
    rw [← List.append_assoc, ← List.append_assoc, ← List.append_assoc]
    exact (List.perm_append_singleton _ _).symm
/-- the j-th object of the store to the front -/
theorem rs_set {R : List Own} {ρ : List V} (lr : R.length = ρ.length) {j : Nat} {P : Own} {v : V} (e : ρ[j]? = some v) : RS (R.set j P) ρ = (RS R ρ).set j (IT.o P, some v) := by
  obtain ⟨hj, ej⟩ := List.getElem?_eq_some_iff.mp e
  unfold RS
  apply List.ext_getElem?
  intro k
  rw [List.getElem?_zipWith]
  by_cases hk : k = j
  · subst hk
    rw [List.getElem?_set_self (by omega), e, List.getElem?_set_self (by simp [List.length_zipWith]; omega)]
  · rw [List.getElem?_set_ne (Ne.symm hk), List.getElem?_set_ne (Ne.symm hk), List.getElem?_zipWith]
theorem Sat.obj {j : Nat} {P : Own} (h : Sat K s σ ρ T H) (e : s.R[j]? = some P) : ∃ v, ρ[j]? = some v ∧
    OK K ((IT.o P, some v) :: (T ++ (ES s.e σ ++ (RS s.R ρ).set j (IT.un, some v)))) H ∧
    ∀ (H' : Hp) (Q : Own), OK K ((IT.o Q, some v) :: (T ++ (ES s.e σ ++ (RS s.R ρ).set j (IT.un, some v)))) H' → Sat K ⟨s.e, s.R.set j Q⟩ σ ρ T H' := by
  obtain ⟨v, h2⟩ := get_of_len h.lr e
  have g := rs_get e h2
  have hz : j < (RS s.R ρ).length := (List.getElem?_eq_some_iff.mp g).1
  have n1 : ∀ x : En, (T ++ (ES s.e σ ++ RS s.R ρ)).set (T.length + ((ES s.e σ).length + j)) x = T ++ (ES s.e σ ++ (RS s.R ρ).set j x) := fun x => by
    rw [List.set_append_right _ _ (Nat.le_add_right _ _), Nat.add_sub_cancel_left, List.set_append_right _ _ (Nat.le_add_right _ _), Nat.add_sub_cancel_left]
  refine ⟨v, h2, ?_, fun H' Q ok => ?_⟩
  · rw [← n1]
    refine h.ok.out ?_
    rw [List.getElem?_append_right (Nat.le_add_right _ _), Nat.add_sub_cancel_left, List.getElem?_append_right (Nat.le_add_right _ _), Nat.add_sub_cancel_left]
    exact g
  · refine ⟨h.le, by simpa using h.lr, h.al, ?_⟩
    have k := ok.set (T.length + ((ES s.e σ).length + j))
    rw [← n1, List.set_set, n1, ← rs_set h.lr h2] at k
    exact k
end
end Z

namespace Z
open PySem L2

def tE (K : PySem.W.Frag) (s : S) (r : SD) (s' : S) : TE := fun σ H Q => ∃ T ρ, Sat K s σ ρ T H ∧ ∀ v ρ' H', ρ <+: ρ' → VR r ρ' v → Sat K s' σ ρ' ((itOf r, some v) :: T) H' → Q v H'
def ZE (X : Cx) (ex : Expr) (s : S) (r : SD) (s' : S) : Prop := PE X ex (tE X.K s r s')
def tT (K : PySem.W.Frag) (s : S) (R : Bool → S → Prop) : TT := fun σ H Q => ∃ T ρ, Sat K s σ ρ T H ∧ ∀ b s' ρ' H', R b s' → ρ <+: ρ' → Sat K s' σ ρ' T H' → Q b H'
def ZT (X : Cx) (ex : Expr) (s : S) (R : Bool → S → Prop) : Prop := PT X ex (tT X.K s R)
def ZW (X : Cx) (ex : Expr) (s : S) (R : Bool → S → Prop) : Prop := PW X ex (tT X.K s R)
/-- just this answer -/
def Is (b : Bool) (s : S) : Bool → S → Prop := fun c t => c = b ∧ t = s
def its (rs : List SD) (vs : List V) : List En := List.zipWith (fun r v => (itOf r, some v)) rs vs
def VRs (rs : List SD) (ρ : List V) (vs : List V) : Prop := rs.length = vs.length ∧ ∀ (i : Nat) (r : SD) (v : V), rs[i]? = some r → vs[i]? = some v → VR r ρ v
def tA (K : PySem.W.Frag) (s : S) (rs : List SD) (s' : S) : TA := fun σ H Q => ∃ T ρ, Sat K s σ ρ T H ∧ ∀ vs ρ' H', ρ <+: ρ' → VRs rs ρ' vs → Sat K s' σ ρ' (its rs vs ++ T) H' → Q vs H'
structure Po where
  b : Nat
  nx : S → Prop
  rt : SD → S → Prop
  bk : S → Prop := fun _ => False
  ct : S → Prop := fun _ => False
structure Meets (K : PySem.W.Frag) (P : Po) (ρ : List V) (T : List En) (D : Ends) : Prop where
  nx : ∀ s' σ' ρ' H', P.nx s' → ρ <+: ρ' → Sat K s' σ' ρ' T H' → D.nx σ' H'
  rt : ∀ r s' σ' ρ' H' v, P.rt r s' → ρ <+: ρ' → VR r ρ' v → Sat K s' σ' ρ' ((itOf r, some v) :: T) H' → D.rt v H'
  bk : ∀ s' σ' ρ' H', P.bk s' → ρ <+: ρ' → Sat K s' σ' ρ' T H' → D.bk σ' H'
  ct : ∀ s' σ' ρ' H', P.ct s' → ρ <+: ρ' → Sat K s' σ' ρ' T H' → D.ct σ' H'
def tS (K : PySem.W.Frag) (M : S → Prop) (P : Po) : TS := fun D σ H => ∃ s T ρ, M s ∧ P.b ≤ ρ.length ∧ Sat K s σ ρ T H ∧ Meets K P (ρ.take P.b) T D
def ZSs (X : Cx) (sts : List Stmt) (s : S) (P : Po) : Prop := PSs X sts (tS X.K (fun t => t = s) P)

section
variable {X : Cx} {e a b c : Expr} {es : List Expr} {s s' s1 s2 s3 : S} {r r1 r2 : SD} {rs : List SD} {pos : Pos}
theorem PE.imp {t t' : TE} (h : PE X e t) (i : ∀ σ H Q, t' σ H Q → t σ H Q) : PE X e t' := ⟨fun pins s σ H Q I q => h.run pins s σ H Q I (i σ H Q q)⟩
theorem PT.imp {t t' : TT} (h : PT X e t) (i : ∀ σ H Q, t' σ H Q → t σ H Q) : PT X e t' := ⟨fun pins s σ H Q I q => h.run pins s σ H Q I (i σ H Q q)⟩
theorem PW.imp {t t' : TT} (h : PW X e t) (i : ∀ σ H Q, t' σ H Q → t σ H Q) : PW X e t' := ⟨fun w pins s σ H Q I q => h.run w pins s σ H Q I (i σ H Q q)⟩
theorem PA.imp {t t' : TA} (h : PA X es t) (i : ∀ σ H Q, t' σ H Q → t σ H Q) : PA X es t' := ⟨fun pos pins s σ H Q I q => h.run pos pins s σ H Q I (i σ H Q q)⟩
theorem PS.imp {st : Stmt} {t t' : TS} (h : PS X st t) (i : ∀ D σ H, t' D σ H → t D σ H) : PS X st t' := ⟨fun pins s σ H D I q => h.run pins s σ H D I (i D σ H q)⟩
theorem PSs.imp {st : List Stmt} {t t' : TS} (h : PSs X st t) (i : ∀ D σ H, t' D σ H → t D σ H) : PSs X st t' := ⟨fun pins s σ H D I q => h.run pins s σ H D I (i D σ H q)⟩
theorem pre_refl (ρ : List V) : ρ <+: ρ := List.prefix_rfl
theorem ZE.to (h : ZE X e s r s') (e1 : r = r1) (e2 : s' = s1) : ZE X e s r1 s1 := by subst e1 e2; exact h
theorem ZT.imp {R R' : Bool → S → Prop} (h : ZT X e s R) (i : ∀ b t, R b t → R' b t) : ZT X e s R' :=
  PT.imp h fun σ H Q ⟨T, ρ, g, q⟩ => ⟨T, ρ, g, fun b t ρ' H' hr p g' => q b t ρ' H' (i b t hr) p g'⟩
theorem ZW.imp {R R' : Bool → S → Prop} (h : ZW X e s R) (i : ∀ b t, R b t → R' b t) : ZW X e s R' :=
  PW.imp h fun σ H Q ⟨T, ρ, g, q⟩ => ⟨T, ρ, g, fun b t ρ' H' hr p g' => q b t ρ' H' (i b t hr) p g'⟩
theorem ZW.t {R : Bool → S → Prop} (h : ZW X e s R) : ZT X e s R := PW.pt h

section
variable {K : PySem.W.Frag} {σ : L2.St} {ρ : List V} {T : List En} {H : Hp} {v : V} {x : PyData}
theorem Sat.of (g : Sat K s σ ρ T H) {T' : List En} {H' : Hp} (h : OK K (T' ++ (ES s.e σ ++ RS s.R ρ)) H') : Sat K s σ ρ T' H' := ⟨g.le, g.lr, g.al, h⟩
end

/-- two values in, one out -/
def Bi (K : PySem.W.Frag) (q : R2) (s : S) (a b z : SD) (s' : S) : Prop := ∀ u w T σ ρ H Q, Sat K s σ ρ ((itOf b, some w) :: (itOf a, some u) :: T) H → VR a ρ u → VR b ρ w →
  (∀ v ρ' H', ρ <+: ρ' → VR z ρ' v → Sat K s' σ ρ' ((itOf z, some v) :: T) H' → Q v H') → q u w H Q
variable {z : SD}
theorem bi_run {q : R2} {ra rb : SD} (hq : Bi X.K q s2 ra rb z s3) : ∀ σ H Q, tE X.K s z s3 σ H Q → tOp q (tE X.K s ra s1) (tE X.K s1 rb s2) σ H Q := fun σ H Q ⟨T, ρ, g, k⟩ =>
  ⟨T, ρ, g, fun u ρ1 H1 p1 vr1 g1 => ⟨_, ρ1, g1, fun w ρ2 H2 p2 vr2 g2 => hq u w T σ ρ2 H2 Q g2 (vr1.mono p2) vr2 fun v ρ3 H3 p3 vr3 g3 => k v ρ3 H3 ((p1.trans p2).trans p3) vr3 g3⟩⟩
variable {i j : Int}
variable {x y : PyData} {ra rb : SD}
end
end Z

namespace Z
open PySem L2
section
variable {X : Cx} {e a b c : Expr} {es : List Expr} {s s' s1 s2 s3 : S} {r r1 r2 : SD} {rs : List SD} {pos : Pos} {R : Bool → S → Prop} {k : Bool}

theorem empty_len {α β : Type} {l : List α} {m : List β} (h : l.length = m.length) : l.isEmpty = m.isEmpty := by
  cases l <;> cases m <;> simp at h ⊢
theorem pe_noway {X : Cx} {e : Expr} : PE X e (fun _ _ _ => False) := ⟨fun _ _ _ _ _ _ h => h.elim⟩
/-- how a call of a global name with these arguments is read -/
def Cl (X : Cx) (x : Str) (e : Expr) (es : List Expr) (pos : Pos) : Prop := Gl X x ∧ starEach (e :: es) X.env = (false, eval e X.env) :: starEach es X.env ∧ (backTo pos (starEach es X.env)).any (·.1) = false
theorem vrs1 {ρ : List V} {us : List V} (h : VRs [r] ρ us) : ∃ u, us = [u] ∧ VR r ρ u := by
  obtain ⟨h1, h2⟩ := h
  match us, h1 with
  | [u], _ => exact ⟨u, rfl, h2 0 r u rfl rfl⟩
theorem vrs2 {ρ : List V} {us : List V} (h : VRs [r, r1] ρ us) : ∃ u w, us = [u, w] ∧ VR r ρ u ∧ VR r1 ρ w := by
  obtain ⟨h1, h2⟩ := h
  match us, h1 with
  | [u, w], _ => exact ⟨u, w, rfl, h2 0 r u rfl rfl, h2 1 r1 w rfl rfl⟩
variable {f p : Pos} {n : Nat} {i j : Int} {x y z : PyData} {ds : List PyData}
theorem PO.imp {X : Cx} {e : Option Expr} {t t' : TO} (h : PO X e t) (i : ∀ σ H Q, t' σ H Q → t σ H Q) : PO X e t' := ⟨fun pins s σ H Q I q => h.run pins s σ H Q I (i σ H Q q)⟩
def cut (xs : List PyData) (lo hi : Option Int) : List PyData := (xs.drop (HT.sIx xs.length 0 lo)).take (HT.sIx xs.length xs.length hi - HT.sIx xs.length 0 lo)
theorem dps_cut {K : PySem.W.Frag} {F : Hp} {vs : List V} {lo hi : Option Int} (h : DpAll K F vs ds) : DpAll K F (cutV vs lo hi) (cut ds lo hi) := by
  unfold cutV cut
  rw [dpsLen h]
  exact dpsTake _ (dpsDrop _ h)
variable {lo hi : Option Expr} {l u : Option Int} {p2 : Pos}
end
end Z

namespace Z
open PySem L2

def wkE : List SD → List SD → Prop
  | [], [] => True
  | a :: l, b :: m => (b = a ∨ b = .un) ∧ wkE l m
  | _, _ => False
/-- no reference at n or beyond -/
def low (n : Nat) : List SD → Prop
  | [] => True
  | .r j :: l => j < n ∧ low n l
  | _ :: l => low n l
theorem wkE_len : ∀ {l m : List SD}, wkE l m → m.length = l.length
  | [], [], _ => rfl
  | a :: l, b :: m, h => by simp [wkE_len h.2]
  | [], _ :: _, h => h.elim
  | _ :: _, [], h => h.elim
theorem wkE_get : ∀ {l m : List SD}, wkE l m → ∀ {i : Nat} {b : SD}, m[i]? = some b → ∃ a, l[i]? = some a ∧ (b = a ∨ b = .un)
  | [], [], _, i, b, e => by simp at e
  | a :: l, b :: m, h, 0, c, e => by simp at e; subst e; exact ⟨a, rfl, h.1⟩
  | a :: l, b :: m, h, i + 1, c, e => by
    rw [List.getElem?_cons_succ] at e
    obtain ⟨x, h1, h2⟩ := wkE_get h.2 e
    exact ⟨x, by rw [List.getElem?_cons_succ]; exact h1, h2⟩
  | [], _ :: _, h, _, _, _ => h.elim
  | _ :: _, [], h, _, _, _ => h.elim
theorem low_get {n : Nat} : ∀ {l : List SD}, low n l → ∀ {i j : Nat}, l[i]? = some (SD.r j) → j < n
  | [], _, i, j, e => by simp at e
  | .r k :: l, h, 0, j, e => by simp at e; subst e; exact h.1
  | .un :: l, h, 0, j, e => by simp at e
  | .d x :: l, h, 0, j, e => by simp at e
  | .r k :: l, h, i + 1, j, e => low_get (l := l) h.2 (by simpa using e)
  | .un :: l, h, i + 1, j, e => low_get (l := l) h (by simpa using e)
  | .d x :: l, h, i + 1, j, e => low_get (l := l) h (by simpa using e)
section
variable {K : PySem.W.Frag} {s : S} {σ : L2.St} {ρ : List V} {T : List En} {H : Hp}
theorem ok_es : ∀ {e e' : List SD} {σ : L2.St} {l : List En}, wkE e e' → OK K (ES e σ ++ l) H → OK K (ES e' σ ++ l) H
  | [], [], _, _, _, h => h
  | a :: e, b :: e', [], l, _, h => h
  | a :: e, b :: e', v :: σ, l, w, h => by
    have h1 : OK K (ES e σ ++ ((itOf a, v) :: l)) H := h.perm List.perm_middle.symm
    have h2 : OK K (ES e' σ ++ ((itOf a, v) :: l)) H := ok_es w.2 h1
    have h3 : OK K ((itOf b, v) :: (ES e' σ ++ l)) H := by
      have h4 : OK K ((itOf a, v) :: (ES e' σ ++ l)) H := h2.perm List.perm_middle
      rcases w.1 with z | z
      · rw [z]; exact h4
      · rw [z]; exact h4.tail.un
    exact h3
  | [], _ :: _, _, _, w, _ => w.elim
  | _ :: _, [], _, _, w, _ => w.elim
theorem Sat.trim {e' : List SD} {n : Nat} (g : Sat K s σ ρ T H) (w : wkE s.e e') (lw : low n e') : Sat K ⟨e', s.R.take n⟩ σ (ρ.take n) T H := by
  refine ⟨(wkE_len w).trans g.le, by simp [g.lr], fun i j e => ?_, ?_⟩
  · obtain ⟨a, h1, h2⟩ := wkE_get w e
    rcases h2 with z | z
    · subst z
      obtain ⟨v, e1, e2⟩ := g.al i j h1
      exact ⟨v, e1, by rw [List.getElem?_take_of_lt (low_get lw e)]; exact e2⟩
    · cases z
  · have h1 : OK K (ES e' σ ++ (RS s.R ρ ++ T)) H := by
      refine ok_es w (g.ok.perm ?_)
      exact (List.perm_append_comm).trans (by rw [List.append_assoc])
    have q : RS s.R ρ = RS (s.R.take n) (ρ.take n) ++ RS (s.R.drop n) (ρ.drop n) := by
      unfold RS
      rw [← List.zipWith_append (by simp [g.lr]), List.take_append_drop, List.take_append_drop]
    rw [q] at h1
    have h2 : OK K (RS (s.R.drop n) (ρ.drop n) ++ (T ++ (ES e' σ ++ RS (s.R.take n) (ρ.take n)))) H := by
      refine h1.perm ?_
      have p1 : (ES e' σ ++ (RS (s.R.take n) (ρ.take n) ++ RS (s.R.drop n) (ρ.drop n) ++ T)).Perm ((ES e' σ ++ RS (s.R.take n) (ρ.take n)) ++ (RS (s.R.drop n) (ρ.drop n) ++ T)) := by
        rw [List.append_assoc, List.append_assoc]
      refine p1.trans ?_
      refine (List.perm_append_comm).trans ?_
      rw [List.append_assoc]
    exact OK.right h2
end
theorem ZE.trim {X : Cx} {e : Expr} {s s1 : S} {x : PyData} {e' : List SD} {n : Nat} (h : ZE X e s (.d x) s1) (w : wkE s1.e e') (lw : low n e') (hn : s.R.length ≤ n) : ZE X e s (.d x) ⟨e', s1.R.take n⟩ :=
  PE.imp h fun σ H Q ⟨T, ρ, g, k⟩ => ⟨T, ρ, g, fun v ρ' H' p vr g' => k v (ρ'.take n) H' (by
    obtain ⟨m, rfl⟩ := p
    rw [List.take_append, List.take_of_length_le (by rw [← g.lr]; exact hn)]
    exact List.prefix_append _ _) trivial (g'.trim w lw)⟩
def gone : Own where
  holds := fun _ _ _ _ fp => fp = []
  stay := fun h _ _ => h
/-- a list that has just come, kept for good -/
theorem ZE.frz {X : Cx} {e : Expr} {s s1 : S} {j : Nat} {ds : List PyData} (h : ZE X e s (.r j) s1) (hj : s1.R[j]? = some (OL ds)) : ZE X e s (.d (.list ds)) ⟨s1.e, s1.R.set j gone⟩ :=
  PE.imp h fun σ H Q ⟨T, ρ, g, k⟩ => ⟨T, ρ, g, fun v ρ' H' p vr g' => k v ρ' H' p trivial (by
    obtain ⟨w, e2, ok, back⟩ := g'.obj hj
    have ev : w = v := Option.some.inj (e2.symm.trans vr)
    subst ev
    obtain ⟨F, f⟩ := ok.fz
    have f2 : OK X.K ((IT.d (.list ds), some w) :: (T ++ (ES s1.e σ ++ (RS s1.R ρ').set j (IT.un, some w)))) H' := (OK.perm (List.Perm.swap _ _ _) f.freeze).tail
    have f3 : OK X.K ((IT.o gone, some w) :: (((IT.d (.list ds), some w) :: T) ++ (ES s1.e σ ++ (RS s1.R ρ').set j (IT.un, some w)))) H' := by
      obtain ⟨F2, L, e1, gg⟩ := f2
      have c := gg.oCons (v := w) (P := gone) (fp := []) rfl List.nodup_nil (fun a ha => by cases ha) (fun a ha => by cases ha)
      exact ⟨F2, (((IT.o gone, some w), []) :: L), by rw [List.map_cons, e1]; rfl, c⟩
    exact back2 g' hj e2 f3)⟩
where
  back2 {K : PySem.W.Frag} {s : S} {σ : L2.St} {ρ : List V} {T T2 : List En} {H H' : Hp} {j : Nat} {P Q : Own} {w : V} (g : Sat K s σ ρ T H) (hj : s.R[j]? = some P) (e2 : ρ[j]? = some w)
      (ok : OK K ((IT.o Q, some w) :: (T2 ++ (ES s.e σ ++ (RS s.R ρ).set j (IT.un, some w)))) H') : Sat K ⟨s.e, s.R.set j Q⟩ σ ρ T2 H' := by
    have hz : j < (RS s.R ρ).length := (List.getElem?_eq_some_iff.mp (rs_get hj e2)).1
    refine ⟨g.le, by simpa using g.lr, g.al, ?_⟩
    have k := ok.set (T2.length + ((ES s.e σ).length + j))
    rw [List.set_append_right _ _ (Nat.le_add_right _ _), Nat.add_sub_cancel_left, List.set_append_right _ _ (Nat.le_add_right _ _), Nat.add_sub_cancel_left, List.set_set, ← rs_set g.lr e2] at k
    exact k

section
variable {X : Cx} {e a b c : Expr} {es : List Expr} {st : Stmt} {rest body orelse : List Stmt} {s s' s1 s2 s3 : S} {r r1 r2 : SD} {rs : List SD} {pos : Pos} {R : Bool → S → Prop} {k : Bool} {P : Po} {M : S → Prop}
theorem Meets.mono {K : PySem.W.Frag} {ρ ρ' : List V} {T : List En} {D : Ends} (h : Meets K P ρ T D) (p : ρ <+: ρ') : Meets K P ρ' T D :=
  ⟨fun s' σ' r' H' a q g => h.nx s' σ' r' H' a (p.trans q) g, fun x s' σ' r' H' v a q vr g => h.rt x s' σ' r' H' v a (p.trans q) vr g, fun s' σ' r' H' a q g => h.bk s' σ' r' H' a (p.trans q) g, fun s' σ' r' H' a q g => h.ct s' σ' r' H' a (p.trans q) g⟩
/-- a list of its own grows: xs.append(e) -/
theorem Sat.putL {K : PySem.W.Frag} {σ : L2.St} {ρ : List V} {T : List En} {H : Hp} {j : Nat} {ds : List PyData} (g : Sat K s σ ρ T H) (hj : s.R[j]? = some (OL ds)) :
    ∃ p vs F, ρ[j]? = some (.ref p) ∧ H p = some (.lst vs) ∧ DpAll K F vs ds ∧ (∀ {x v}, (IT.d x, some v) ∈ T → Dp K F v x) ∧ ∀ ds' vs', DpAll K F vs' ds' → Sat K ⟨s.e, s.R.set j (OL ds')⟩ σ ρ T (upd H p (.lst vs')) := by
  obtain ⟨v, e2, ok, back⟩ := g.obj hj
  obtain ⟨F, f⟩ := ok.fz
  obtain ⟨p, vs, e3, h1, h2, h3⟩ := f.putL (ds' := ds)
  subst e3
  refine ⟨p, vs, F, e2, h1, h2, fun {x v} m => ?_, fun ds' vs' q => back _ _ (h3 ds' vs' q)⟩
  obtain ⟨u, z, d⟩ := f.at (x := x) (v := some v) (List.mem_cons_of_mem _ (List.mem_append_left _ m))
  cases z
  exact d
end
end Z

namespace Z
open PySem L2

def Wk (K : PySem.W.Frag) (J : It) (ds : List PyData) (T0 : List En) : Prop := ∀ l H, OK K (T0 ++ l) H →
  (∀ i x, ds[i]? = some x → J.go i H ∧ ∀ v H', J.yld i H v H' → OK K ((IT.d x, some v) :: (T0 ++ l)) H') ∧ J.stop ds.length H
def tI (K : PySem.W.Frag) (s : S) (ds : List PyData) (s1 : S) : TI := fun σ H R => ∃ T ρ, Sat K s σ ρ T H ∧ ∀ J T0 ρ' H', ρ <+: ρ' → Sat K s1 σ ρ' (T0 ++ T) H' → Wk K J ds T0 → R J H'
def ZI (X : Cx) (tg it : Expr) (s : S) (ds : List PyData) (s1 : S) : Prop := PI X tg it (tI X.K s ds s1)
section
variable {X : Cx} {tg e a b : Expr} {es : List Expr} {s s' s1 s2 : S} {ds : List PyData} {pos p : Pos} {i j : Int}
theorem PI.imp {t t' : TI} (h : PI X tg e t) (k : ∀ σ H Q, t' σ H Q → t σ H Q) : PI X tg e t' := ⟨fun pins s σ H Q I q => h.run pins s σ H Q I (k σ H Q q)⟩
def rng (lo : Int) (n : Nat) : List PyData := (List.range n).map fun k => .int (lo + (k : Nat))
theorem rng_get {lo : Int} {n k : Nat} {x : PyData} (h : (rng lo n)[k]? = some x) : k < n ∧ x = .int (lo + (k : Nat)) := by
  unfold rng at h
  rw [List.getElem?_map] at h
  cases q : (List.range n)[k]? with
  | none => rw [q] at h; cases h
  | some m =>
    rw [q] at h
    have hk : k < n := by
      have := (List.getElem?_eq_some_iff.mp q).1
      simpa using this
    rw [List.getElem?_range hk] at q
    cases q
    exact ⟨hk, (Option.some.inj h).symm⟩
theorem rng_len {lo : Int} {n : Nat} : (rng lo n).length = n := by unfold rng; simp
theorem wk_rng {K : PySem.W.Frag} {lo : Int} {n : Nat} : Wk K (Itr lo n) (rng lo n) [] := fun l H ok => by
  refine ⟨fun k x hx => ?_, Nat.le_of_eq rng_len.symm⟩
  obtain ⟨h1, h2⟩ := rng_get hx
  subst h2
  refine ⟨h1, fun v H' ⟨e1, e2⟩ => ?_⟩
  subst e1 e2
  exact OK.flat (show flat (.int _) (.int _) from rfl) ok
/-- but for the slots at vs -/
def offv (vs : List Nat) (σ σ' : L2.St) : Prop := σ'.length = σ.length ∧ ∀ k, k ∉ vs → σ'[k]? = σ[k]?
def tG (K : PySem.W.Frag) (vs : List Nat) (x : PyData) (s s' : S) : TG := fun v σ H Q => ∃ T ρ, Sat K s σ ρ ((IT.d x, some v) :: T) H ∧ ∀ σ', offv vs σ σ' → Sat K s' σ' ρ T H → Q σ' H
def ZG (X : Cx) (tg : Expr) (vs : List Nat) (x : PyData) (s s' : S) : Prop := PG X tg (tG X.K vs x s s')
def tGs (K : PySem.W.Frag) (vs : List Nat) (xs : List PyData) (s s' : S) : TGs := fun us σ H Q => ∃ T ρ, xs.length = us.length ∧ Sat K s σ ρ (ds2 xs us ++ T) H ∧ ∀ σ', offv vs σ σ' → Sat K s' σ' ρ T H → Q σ' H
theorem PG.imp {t t' : TG} (h : PG X tg t) (k : ∀ v σ H Q, t' v σ H Q → t v σ H Q) : PG X tg t' := ⟨fun pins s σ H v u Q I r q => h.run pins s σ H v u Q I r (k v σ H Q q)⟩
theorem PGs.imp {tgs : List Expr} {t t' : TGs} (h : PGs X tgs t) (k : ∀ v σ H Q, t' v σ H Q → t v σ H Q) : PGs X tgs t' := ⟨fun pins s σ H v u Q I r q => h.run pins s σ H v u Q I r (k v σ H Q q)⟩
theorem offv_set {vs : List Nat} {σ : L2.St} {k : Nat} {v : Option V} (h : k ∈ vs) : offv vs σ (σ.set k v) := ⟨by simp, fun m hm => by
  rw [List.getElem?_set_ne]
  rintro rfl
  exact hm h⟩
theorem offv.trans {vs : List Nat} {σ σ' σ2 : L2.St} (h : offv vs σ σ') (h2 : offv vs σ' σ2) : offv vs σ σ2 := ⟨h2.1.trans h.1, fun k hk => (h2.2 k hk).trans (h.2 k hk)⟩
variable {rest body : List Stmt} {P : Po} {M : S → Prop}
end
end Z

namespace Z
open PySem L2

def wipeE (e : List SD) : List Nat → List SD
  | [] => e
  | v :: vs => (wipeE e vs).set v .un
theorem wipeE_len (e : List SD) : ∀ vs : List Nat, (wipeE e vs).length = e.length
  | [] => rfl
  | v :: vs => by unfold wipeE; rw [List.length_set, wipeE_len e vs]
theorem wipeE_get {e : List SD} {i : Nat} {a : SD} : ∀ {vs : List Nat}, (wipeE e vs)[i]? = some a → a = .un ∨ (e[i]? = some a ∧ i ∉ vs)
  | [], h => .inr ⟨h, by simp⟩
  | v :: vs, h => by
    unfold wipeE at h
    by_cases hi : i = v
    · subst hi
      by_cases hv : i < (wipeE e vs).length
      · rw [List.getElem?_set_self hv] at h
        exact .inl (Option.some.inj h).symm
      · rw [List.getElem?_eq_none (by simpa using hv)] at h
        cases h
    · rw [List.getElem?_set_ne (Ne.symm hi)] at h
      rcases wipeE_get h with z | ⟨z1, z2⟩
      · exact .inl z
      · exact .inr ⟨z1, by simp only [List.mem_cons, not_or]; exact ⟨hi, z2⟩⟩
theorem wipe_keep {σ : L2.St} {i : Nat} : ∀ {vs : List Nat}, i ∉ vs → (wipe σ vs)[i]? = σ[i]?
  | [], _ => rfl
  | v :: vs, h => by
    simp only [List.mem_cons, not_or] at h
    unfold wipe
    rw [List.getElem?_set_ne (Ne.symm h.1)]
    exact wipe_keep h.2
theorem wipe_at {σ : L2.St} {i : Nat} (hi : i < σ.length) : ∀ {vs : List Nat}, i ∈ vs → (wipe σ vs)[i]? = some none
  | [], h => by simp at h
  | v :: vs, h => by
    unfold wipe
    by_cases e : i = v
    · subst e
      rw [List.getElem?_set_self (by rw [wipe_length]; exact hi)]
    · rw [List.getElem?_set_ne (Ne.symm e)]
      exact wipe_at hi (by simpa [e] using h)
theorem wipe_off {σ σ' : L2.St} {vs : List Nat} (h : offv vs (wipe σ vs) σ') : wipe σ' vs = wipe σ vs := by
  have hl : σ'.length = σ.length := by rw [h.1, wipe_length]
  apply List.ext_getElem?
  intro i
  by_cases hv : i ∈ vs
  · by_cases hi : i < σ.length
    · rw [wipe_at (by omega) hv, wipe_at hi hv]
    · rw [List.getElem?_eq_none (by rw [wipe_length]; omega), List.getElem?_eq_none (by rw [wipe_length]; omega)]
  · rw [wipe_keep hv, h.2 i hv]
section
variable {K : PySem.W.Frag} {H F : Hp} {T l : List En} {σ : L2.St} {ρ : List V} {s : S}
theorem Fz.es : ∀ {e : List SD} {σ : L2.St} {l : List En}, e.length = σ.length → (∀ (i : Nat) (x : PyData) (v : Option V), e[i]? = some (SD.d x) → σ[i]? = some v → ∃ u, v = some u ∧ Dp K F u x) → Fz K F l H → Fz K F (ES e σ ++ l) H
  | [], _, _, _, _, f => f
  | a :: e, [], _, hl, _, _ => by simp at hl
  | a :: e, v :: σ, l, hl, h, f => by
    have ih := Fz.es (e := e) (σ := σ) (l := l) (by simpa using hl) (fun i x w h1 h2 => h (i + 1) x w (by simpa using h1) (by simpa using h2)) f
    show Fz K F ((itOf a, v) :: (ES e σ ++ l)) H
    cases a with
    | d x =>
      obtain ⟨u, e1, hd⟩ := h 0 x v rfl rfl
      subst e1
      exact ih.add hd
    | un => exact ih.un
    | r j => exact ih.un
theorem es_set {e : List SD} {σ : L2.St} (hl : e.length = σ.length) (i : Nat) (a : SD) (v : Option V) : ES (e.set i a) (σ.set i v) = (ES e σ).set i (itOf a, v) := by
  unfold ES
  apply List.ext_getElem?
  intro k
  rw [List.getElem?_zipWith]
  by_cases hk : k = i
  · subst hk
    by_cases hi : k < e.length
    · rw [List.getElem?_set_self hi, List.getElem?_set_self (by omega), List.getElem?_set_self (by rw [List.length_zipWith]; omega)]
    · rw [List.set_eq_of_length_le (by omega), List.set_eq_of_length_le (by omega), List.set_eq_of_length_le (by rw [List.length_zipWith]; omega), List.getElem?_zipWith]
  · rw [List.getElem?_set_ne (Ne.symm hk), List.getElem?_set_ne (Ne.symm hk), List.getElem?_set_ne (Ne.symm hk), List.getElem?_zipWith]
theorem OK.wipe {e : List SD} {σ : L2.St} (hl : e.length = σ.length) (h : OK K (T ++ (ES e σ ++ l)) H) : ∀ vs : List Nat, OK K (T ++ (ES (wipeE e vs) (L2.wipe σ vs) ++ l)) H
  | [] => h
  | v :: vs => by
    have ih := OK.wipe hl h vs
    unfold wipeE L2.wipe
    rw [es_set (by rw [wipeE_len, wipe_length]; exact hl)]
    by_cases hv : v < (ES (wipeE e vs) (L2.wipe σ vs)).length
    · have k := (ih.un (v := none)).set (T.length + v)
      rw [List.set_append_right _ _ (Nat.le_add_right _ _), Nat.add_sub_cancel_left, List.set_append_left _ _ hv] at k
      exact k
    · rw [List.set_eq_of_length_le (by omega)]
      exact ih
theorem cas {α : Type} (a b c : List α) : (a ++ (b ++ c)).Perm (b ++ (a ++ c)) := by
  rw [← List.append_assoc, ← List.append_assoc]
  exact List.Perm.append_right _ List.perm_append_comm
/-- into the block -/
theorem Sat.blk (g : Sat K s σ ρ T H) (vs : List Nat) : Sat K ⟨wipeE s.e vs, s.R⟩ (L2.wipe σ vs) ρ (ES s.e σ ++ T) H := by
  refine ⟨by rw [wipeE_len, wipe_length]; exact g.le, g.lr, fun i j e => ?_, ?_⟩
  · rcases wipeE_get e with z | ⟨z1, z2⟩
    · cases z
    · obtain ⟨v, e1, e2⟩ := g.al i j z1
      exact ⟨v, by rw [wipe_keep z2]; exact e1, e2⟩
  · obtain ⟨F, f⟩ := g.ok.fz
    have f2 : Fz K F (ES s.e σ ++ (T ++ (ES s.e σ ++ RS s.R ρ))) H := Fz.es g.le (fun i x v h1 h2 => f.at (List.mem_append_right _ (List.mem_append_left _ (List.mem_of_getElem? (es_get h1 h2))))) f
    have ok : OK K ((ES s.e σ ++ T) ++ (ES s.e σ ++ RS s.R ρ)) H := by rw [List.append_assoc]; exact f2.ok
    exact OK.wipe g.le ok vs
/-- out of it -/
theorem Sat.unblk {R : List Own} {ρ' : List V} {e' : List SD} {σ' : L2.St} {A : List En} (g : Sat K s σ ρ T H) {H' : Hp} {T' : List En} (p : ρ <+: ρ') (h : Sat K ⟨e', R⟩ σ' ρ' (A ++ (ES s.e σ ++ T')) H') : Sat K ⟨s.e, R⟩ σ ρ' (A ++ T') H' := by
  refine ⟨g.le, h.lr, fun i j e => ?_, ?_⟩
  · obtain ⟨v, e1, e2⟩ := g.al i j e
    exact ⟨v, e1, VR.mono (r := .r j) e2 p⟩
  · have k : OK K ((A ++ (ES s.e σ ++ T')) ++ (ES e' σ' ++ RS R ρ')) H' := h.ok
    have k2 : OK K (ES e' σ' ++ ((A ++ T') ++ (ES s.e σ ++ RS R ρ'))) H' := by
      refine k.perm ?_
      simp only [List.append_assoc]
      have q1 : (ES s.e σ ++ (T' ++ (ES e' σ' ++ RS R ρ'))).Perm (ES e' σ' ++ (T' ++ (ES s.e σ ++ RS R ρ'))) :=
        (cas _ _ _).trans (((cas (ES s.e σ) (ES e' σ') (RS R ρ')).append_left T').trans (cas _ _ _))
      exact (q1.append_left A).trans (cas _ _ _)
    exact k2.right
end
def ZTs (X : Cx) (ifs : List Expr) (s : S) (R : Bool → S → Prop) : Prop := PTs X ifs (tT X.K s R)
section
variable {X : Cx} {tg e a b elt iter : Expr} {es ifs : List Expr} {s s' s1 s2 : S} {ds : List PyData} {pos p : Pos} {i j : Int}
abbrev bl (X : Cx) (scope : Scope) (z : Shared × Hp × Addr × List (Str × Addr) × List Addr) : Cx := X.blk z.1 z.2.1 scope (compEnvC scope z.2.2.2.1 z.2.2.1 X.env) z.2.2.2.2
theorem lc_run {scope : Scope} {own : List (Str × Nat)} {vs : List Nat} (hvs : own.map (·.2) = vs) (Iv : Nat → List PyData → List Own → Prop) (h0 : Iv 0 [] s1.R)
    (turn : ∀ i x acc R, ds[i]? = some x → Iv i acc R → ∃ t' Rt, (∀ z, ZG (bl X scope z) tg vs x ⟨wipeE s1.e vs, R⟩ t') ∧ (∀ z, ZTs (bl X scope z) ifs t' Rt) ∧ (∀ t2, Rt false t2 → Iv (i + 1) acc t2.R) ∧
      ∀ t2, Rt true t2 → ∃ y t3, (∀ z, ZE (bl X scope z) elt t2 (.d y) t3) ∧ Iv (i + 1) (acc ++ [y]) t3.R) (hsz : ds.length < sizeLine)
    (hi : ZI X tg iter s ds s1) (hN : X.N.Nodup) (hc : X.calm = true) (ok : BlkOk X.N X.env.scope scope own) (hs : ∀ x, foldedSetIterable iter X.env x = pure x) :
    ∃ te, (PE X (.ListComp elt [⟨tg, iter, ifs, 0⟩] scope pos) te ∧ ∀ (i : Nat) (y : Str) (py spos : Pos), X.N[i]? = some y → X.env.scope.names.lookup y = some .local → swapsWith (.ListComp elt [⟨tg, iter, ifs, 0⟩] scope pos) (some (.Name y py)) spos.line X.env = pure true → PS X (.Assign [.Name y py] (.ListComp elt [⟨tg, iter, ifs, 0⟩] scope pos) spos) (tAsg te (gName i))) ∧ ∀ T σ ρ H Q, Sat X.K s σ ρ T H →
      (∀ acc R ρ' D H', Iv ds.length acc R → ρ <+: ρ' → Sat X.K ⟨s1.e, R⟩ σ ρ' ((IT.o (OL acc), some (.ref D)) :: T) H' → Q (.ref D) H') → te σ H Q := by
  subst hvs
  have hg : ∀ (sh : Shared) (H : Hp) (C : Addr) (cl : List (Str × Addr)) (fp : List Addr), PG (X.blk sh H scope (compEnvC scope cl C X.env) fp) tg (fun v σ H Q => ∃ x t t', (∀ z, ZG (bl X scope z) tg (own.map (·.2)) x t t') ∧ tG X.K (own.map (·.2)) x t t' v σ H Q) := fun sh H C cl fp =>
    ⟨fun pins sh' σ H' v u Q I r ⟨x, t, t', m, q⟩ => (m (sh, H, C, cl, fp)).run pins sh' σ H' v u Q I r q⟩
  have ht : ∀ (sh : Shared) (H : Hp) (C : Addr) (cl : List (Str × Addr)) (fp : List Addr), PTs (X.blk sh H scope (compEnvC scope cl C X.env) fp) ifs (fun σ H Q => ∃ t R, (∀ z, ZTs (bl X scope z) ifs t R) ∧ tT X.K t R σ H Q) := fun sh H C cl fp =>
    ⟨fun pins sh' σ H' Q I ⟨t, R, m, q⟩ => (m (sh, H, C, cl, fp)).run pins sh' σ H' Q I q⟩
  have he : ∀ (sh : Shared) (H : Hp) (C : Addr) (cl : List (Str × Addr)) (fp : List Addr), PE (X.blk sh H scope (compEnvC scope cl C X.env) fp) elt (fun σ H Q => ∃ t y t', (∀ z, ZE (bl X scope z) elt t (.d y) t') ∧ tE X.K t (.d y) t' σ H Q) := fun sh H C cl fp =>
    ⟨fun pins sh' σ H' Q I ⟨t, y, t', m, q⟩ => (m (sh, H, C, cl, fp)).run pins sh' σ H' Q I q⟩
  refine ⟨_, ⟨pe_lc hc hN hi ok hg ht he hs, fun i y py spos hy hyl hsw => ps_setLc hc hN hy hyl hsw hi ok hg ht he hs⟩, fun T σ ρ H Q g fin => ?_⟩
  refine ⟨T, ρ, g, fun J T0 ρ1 H1 p1 g1 w D hD => ?_⟩
  -- the block's start
  have gb := g1.blk (own.map (·.2))
  have gD : Sat X.K ⟨wipeE s1.e (own.map (·.2)), s1.R⟩ (wipe σ (own.map (·.2))) ρ1 ((IT.o (OL []), some (.ref D)) :: (ES s1.e σ ++ (T0 ++ T))) (upd H1 D (.lst [])) := by
    obtain ⟨F, f⟩ := gb.ok.fz
    exact gb.of (f.lstO (ds := []) (vs := []) .nil hD)
  refine ⟨fun i m H' => m = ds.length - i ∧ i ≤ ds.length ∧ ∃ acc R ρ', Iv i acc R ∧ acc.length ≤ i ∧ ρ1 <+: ρ' ∧ Sat X.K ⟨wipeE s1.e (own.map (·.2)), R⟩ (wipe σ (own.map (·.2))) ρ' ((IT.o (OL acc), some (.ref D)) :: (ES s1.e σ ++ (T0 ++ T))) H', ⟨_, rfl, Nat.zero_le _, [], s1.R, ρ1, h0, Nat.le_refl _, pre_refl _, gD⟩, ?_⟩
  rintro i m H' ⟨rfl, hi', acc, R, ρ', iv, hacc, p', g'⟩
  have okw : OK X.K (T0 ++ ((IT.o (OL acc), some (.ref D)) :: (ES s1.e σ ++ T) ++ (ES (wipeE s1.e (own.map (·.2))) (wipe σ (own.map (·.2))) ++ RS R ρ'))) H' := by
    refine g'.ok.perm ?_
    show ([(IT.o (OL acc), some (V.ref D))] ++ (ES s1.e σ ++ (T0 ++ T)) ++ (ES (wipeE s1.e (own.map (·.2))) (wipe σ (own.map (·.2))) ++ RS R ρ')).Perm (T0 ++ ([(IT.o (OL acc), some (V.ref D))] ++ (ES s1.e σ ++ T) ++ (ES (wipeE s1.e (own.map (·.2))) (wipe σ (own.map (·.2))) ++ RS R ρ')))
    simp only [List.append_assoc]
    exact ((cas (ES s1.e σ) T0 _).append_left _).trans (cas _ _ _)
  obtain ⟨w1, w2⟩ := w _ H' okw
  by_cases hlt : i < ds.length
  · obtain ⟨go, yl⟩ := w1 i ds[i] (List.getElem?_eq_getElem hlt)
    obtain ⟨t', Rt, hG, hT, hF, hE⟩ := turn i ds[i] acc R (List.getElem?_eq_getElem hlt) iv
    refine .inr ⟨go, fun H3 => ∃ acc R ρ', Iv (i + 1) acc R ∧ acc.length ≤ i + 1 ∧ ρ1 <+: ρ' ∧ Sat X.K ⟨wipeE s1.e (own.map (·.2)), R⟩ (wipe σ (own.map (·.2))) ρ' ((IT.o (OL acc), some (.ref D)) :: (ES s1.e σ ++ (T0 ++ T))) H3,
      fun H3 ⟨a1, a2, a3, a4⟩ => ⟨ds.length - (i + 1), by omega, rfl, hlt, a1, a2, a3, a4⟩, fun v H4 y => ?_⟩
    have okv := yl v H4 y
    have g4 : Sat X.K ⟨wipeE s1.e (own.map (·.2)), R⟩ (wipe σ (own.map (·.2))) ρ' ((IT.d ds[i], some v) :: ((IT.o (OL acc), some (.ref D)) :: (ES s1.e σ ++ (T0 ++ T)))) H4 := by
      refine ⟨g'.le, g'.lr, g'.al, okv.perm (List.Perm.cons _ ?_)⟩
      show (T0 ++ ([(IT.o (OL acc), some (V.ref D))] ++ (ES s1.e σ ++ T) ++ (ES (wipeE s1.e (own.map (·.2))) (wipe σ (own.map (·.2))) ++ RS R ρ'))).Perm ([(IT.o (OL acc), some (V.ref D))] ++ (ES s1.e σ ++ (T0 ++ T)) ++ (ES (wipeE s1.e (own.map (·.2))) (wipe σ (own.map (·.2))) ++ RS R ρ'))
      simp only [List.append_assoc]
      exact (cas _ _ _).trans ((cas T0 (ES s1.e σ) _).append_left _)
    -- the same again with a second copy of the frame, for the way back
    refine ⟨ds[i], _, t', hG, _, ρ', ⟨g4.le, g4.lr, g4.al, g4.ok⟩, fun σ2 o g5 => ⟨wipe_off o, ?_⟩⟩
    have back : ∀ {R2 : List Own} {e2 : List SD} {ρ2 : List V} {acc2 : List PyData} {H2 : Hp}, ρ' <+: ρ2 → Sat X.K ⟨e2, R2⟩ σ2 ρ2 ((IT.o (OL acc2), some (.ref D)) :: (ES s1.e σ ++ (T0 ++ T))) H2 →
        Sat X.K ⟨wipeE s1.e (own.map (·.2)), R2⟩ (wipe σ (own.map (·.2))) ρ2 ((IT.o (OL acc2), some (.ref D)) :: (ES s1.e σ ++ (T0 ++ T))) H2 := fun {R2 e2 ρ2 acc2 H2} p2 g2 => by
      have b := g1.unblk (A := [(IT.o (OL acc2), some (.ref D))]) (p'.trans p2) g2
      have b2 := b.blk (own.map (·.2))
      refine b2.tperm ?_
      exact List.perm_middle
    refine ⟨t', Rt, hT, _, ρ', g5, fun b t2 ρ2 H5 hr p2 g6 => ?_⟩
    cases b with
    | false => exact ⟨acc, t2.R, ρ2, hF t2 hr, by omega, p'.trans p2, back p2 g6⟩
    | true =>
      obtain ⟨yd, t3, hy, iv3⟩ := hE t2 hr
      show ∃ _, _
      refine ⟨t2, yd, t3, hy, _, ρ2, g6, fun u ρ3 H6 p3 _ g7 => ?_⟩
      have g8 : OK X.K ((IT.o (OL acc), some (.ref D)) :: ((IT.d yd, some u) :: (ES s1.e σ ++ (T0 ++ T)) ++ (ES t3.e σ2 ++ RS t3.R ρ3))) H6 := g7.ok.perm (List.Perm.swap _ _ _)
      obtain ⟨F, f⟩ := g8.fz
      obtain ⟨pD, vs, e3, h1, h2, h3⟩ := f.putL (ds' := acc)
      cases e3
      obtain ⟨u', e4, hu⟩ := f.at (x := yd) (v := some u) (List.mem_cons_of_mem _ List.mem_cons_self)
      cases e4
      refine ⟨vs, h1, by rw [dpsLen h2]; omega, acc ++ [yd], t3.R, ρ3, iv3, by rw [List.length_append]; exact Nat.succ_le_succ hacc, (p'.trans p2).trans p3, back (e2 := t3.e) (p2.trans p3) ?_⟩
      have k := h3 (acc ++ [yd]) (vs ++ [u]) (dpsApp h2 (.cons hu .nil))
      exact ⟨g7.le, g7.lr, g7.al, ((k.perm (List.Perm.swap _ _ _)).tail)⟩
  · have e : i = ds.length := by omega
    subst e
    refine .inl ⟨w2, fin acc R ρ' D H' iv (p1.trans p') ?_⟩
    have b := g1.unblk (A := [(IT.o (OL acc), some (.ref D))]) p' g'
    have b2 : Sat X.K ⟨s1.e, R⟩ σ ρ' ((IT.o (OL acc), some (.ref D)) :: (T0 ++ T)) H' := b
    have b3 : Sat X.K ⟨s1.e, R⟩ σ ρ' (T0 ++ ((IT.o (OL acc), some (.ref D)) :: T)) H' := b2.tperm List.perm_middle.symm
    exact b3.tdrops
end

def ie (ds : List IT) (vs : List V) : List En := List.zipWith (fun i v => (i, some v)) ds vs
def sl : List IT → Nat → List SD
  | [], _ => []
  | .o _ :: r, n => .r n :: sl r (n + 1)
  | .d x :: r, n => .d x :: sl r n
  | .un :: r, n => .un :: sl r n
def objs : List IT → List Own
  | [] => []
  | .o P :: r => P :: objs r
  | _ :: r => objs r
def vals : List IT → List V → List V
  | .o _ :: r, v :: vs => v :: vals r vs
  | _ :: r, _ :: vs => vals r vs
  | _, _ => []
def back : List IT → List Own → List IT
  | [], _ => []
  | .o _ :: r, P :: Os => .o P :: back r Os
  | .o _ :: r, [] => .un :: back r []
  | _ :: r, Os => .un :: back r Os
/-- a def's promise: what is asked of the arguments; result and objects behind it -/
def spZ (K : PySem.W.Frag) (Pre : List IT → Prop) (Rel : List IT → IT → List Own → Prop) : Sp := fun vs H Q _ => ∃ ds T, Pre ds ∧ ds.length = vs.length ∧ OK K (ie ds vs ++ T) H ∧
  ∀ z Os v H', Rel ds z Os → OK K ((z, some v) :: (ie (back ds Os) vs ++ T)) H' → Q v H'
section
variable {K : PySem.W.Frag} {H : Hp}
theorem vals_len : ∀ {ds : List IT} {vs : List V}, ds.length = vs.length → (vals ds vs).length = (objs ds).length
  | [], [], _ => rfl
  | .o P :: r, v :: vs, h => by simp [vals, objs, vals_len (ds := r) (vs := vs) (by simpa using h)]
  | .d x :: r, v :: vs, h => by simp [vals, objs, vals_len (ds := r) (vs := vs) (by simpa using h)]
  | .un :: r, v :: vs, h => by simp [vals, objs, vals_len (ds := r) (vs := vs) (by simpa using h)]
  | [], _ :: _, h => by simp at h
  | _ :: _, [], h => by simp at h
theorem sl_len : ∀ {ds : List IT} {n : Nat}, (sl ds n).length = ds.length
  | [], _ => rfl
  | .o P :: r, n => by simp [sl, sl_len (ds := r)]
  | .d x :: r, n => by simp [sl, sl_len (ds := r)]
  | .un :: r, n => by simp [sl, sl_len (ds := r)]
theorem enter : ∀ {ds : List IT} {vs : List V} {n : Nat} {T : List En}, ds.length = vs.length → OK K (ie ds vs ++ T) H → OK K (T ++ (ES (sl ds n) (vs.map some) ++ RS (objs ds) (vals ds vs))) H
  | [], [], n, T, _, h => by
    show OK K (T ++ []) H
    rw [List.append_nil]
    exact h
  | .o P :: r, v :: vs, n, T, hl, h => by
    have h1 : OK K (ie r vs ++ ((IT.o P, some v) :: T)) H := OK.perm List.perm_middle.symm h
    have h2 := enter (ds := r) (vs := vs) (n := n + 1) (T := (IT.o P, some v) :: T) (by simpa using hl) h1
    have h3 : OK K ((IT.un, some v) :: ((IT.o P, some v) :: (T ++ (ES (sl r (n + 1)) (vs.map some) ++ RS (objs r) (vals r vs))))) H := OK.un h2
    refine h3.perm ?_
    show ([(IT.un, some v)] ++ ([(IT.o P, some v)] ++ (T ++ (ES (sl r (n + 1)) (vs.map some) ++ RS (objs r) (vals r vs))))).Perm (T ++ ([(IT.un, some v)] ++ ES (sl r (n + 1)) (vs.map some) ++ ([(IT.o P, some v)] ++ RS (objs r) (vals r vs))))
    simp only [List.append_assoc]
    refine ((((cas _ _ _).append_left _).trans (cas _ _ _)).trans (List.Perm.append_left _ ?_))
    exact (cas _ _ _).append_left _
  | .d x :: r, v :: vs, n, T, hl, h => by
    have h1 : OK K (ie r vs ++ ((IT.d x, some v) :: T)) H := OK.perm List.perm_middle.symm h
    have h2 := enter (ds := r) (vs := vs) (n := n) (T := (IT.d x, some v) :: T) (by simpa using hl) h1
    exact OK.perm List.perm_middle.symm h2
  | .un :: r, v :: vs, n, T, hl, h => by
    have h1 : OK K (ie r vs ++ ((IT.un, some v) :: T)) H := OK.perm List.perm_middle.symm h
    have h2 := enter (ds := r) (vs := vs) (n := n) (T := (IT.un, some v) :: T) (by simpa using hl) h1
    exact OK.perm List.perm_middle.symm h2
  | [], _ :: _, _, _, h, _ => by simp at h
  | _ :: _, [], _, _, h, _ => by simp at h
theorem leave : ∀ {ds : List IT} {vs : List V} {R : List Own} {T : List En}, ds.length = vs.length → R.length = (objs ds).length → OK K (T ++ RS R (vals ds vs)) H → OK K (ie (back ds R) vs ++ T) H
  | [], [], R, T, _, hr, h => by
    cases R with
    | nil => rw [show T ++ RS [] (vals [] []) = T from List.append_nil T] at h; exact h
    | cons => simp [objs] at hr
  | .o P :: r, v :: vs, P' :: R, T, hl, hr, h => by
    have h1 : OK K (((IT.o P', some v) :: T) ++ RS R (vals r vs)) H := by
      refine OK.perm ?_ h
      exact List.perm_middle
    have h2 := leave (ds := r) (vs := vs) (R := R) (T := (IT.o P', some v) :: T) (by simpa using hl) (by simpa [objs] using hr) h1
    exact OK.perm List.perm_middle h2
  | .o P :: r, v :: vs, [], T, hl, hr, h => by simp [objs] at hr
  | .d x :: r, v :: vs, R, T, hl, hr, h => by
    have h2 := leave (ds := r) (vs := vs) (R := R) (T := T) (by simpa using hl) (by simpa [objs] using hr) h
    cases R <;> exact h2.un
  | .un :: r, v :: vs, R, T, hl, hr, h => by
    have h2 := leave (ds := r) (vs := vs) (R := R) (T := T) (by simpa using hl) (by simpa [objs] using hr) h
    cases R <;> exact h2.un
  | [], _ :: _, _, _, h, _, _ => by simp at h
  | _ :: _, [], _, _, h, _, _ => by simp at h
theorem sl_ref : ∀ {ds : List IT} {vs : List V} {n i j : Nat}, ds.length = vs.length → (sl ds n)[i]? = some (SD.r j) → n ≤ j ∧ ∃ v, vs[i]? = some v ∧ (vals ds vs)[j - n]? = some v
  | [], [], _, i, _, _, e => by simp [sl] at e
  | .o P :: r, v :: vs, n, 0, j, hl, e => by
    simp [sl] at e
    subst e
    exact ⟨Nat.le_refl _, v, rfl, by simp [vals]⟩
  | .o P :: r, v :: vs, n, i + 1, j, hl, e => by
    obtain ⟨h0, w, h1, h2⟩ := sl_ref (ds := r) (vs := vs) (n := n + 1) (i := i) (j := j) (by simpa using hl) (by simpa [sl] using e)
    refine ⟨by omega, w, by simpa using h1, ?_⟩
    rw [show j - n = (j - (n + 1)) + 1 by omega]
    simpa [vals] using h2
  | .d x :: r, v :: vs, n, 0, j, hl, e => by simp [sl] at e
  | .d x :: r, v :: vs, n, i + 1, j, hl, e => by
    obtain ⟨h0, w, h1, h2⟩ := sl_ref (ds := r) (vs := vs) (n := n) (i := i) (j := j) (by simpa using hl) (by simpa [sl] using e)
    exact ⟨h0, w, by simpa using h1, by simpa [vals] using h2⟩
  | .un :: r, v :: vs, n, 0, j, hl, e => by simp [sl] at e
  | .un :: r, v :: vs, n, i + 1, j, hl, e => by
    obtain ⟨h0, w, h1, h2⟩ := sl_ref (ds := r) (vs := vs) (n := n) (i := i) (j := j) (by simpa using hl) (by simpa [sl] using e)
    exact ⟨h0, w, by simpa using h1, by simpa [vals] using h2⟩
  | [], _ :: _, _, _, _, h, _ => by simp at h
  | _ :: _, [], _, _, _, h, _ => by simp at h
theorem es_un : ∀ (e : List SD) (vs : List V) (n : Nat) {T : List En}, e.length = vs.length → OK K (T ++ ES e (vs.map some)) H → OK K (T ++ ES (e ++ List.replicate n .un) (vs.map some ++ List.replicate n none)) H := fun e vs n T hl h => by
  have q : ES (e ++ List.replicate n .un) (vs.map some ++ List.replicate n none) = ES e (vs.map some) ++ List.replicate n (IT.un, none) := by
    unfold ES
    rw [List.zipWith_append (by rw [List.length_map]; exact hl)]
    congr 1
    exact List.zipWith_replicate' ..
  rw [q]
  induction n with
  | zero => rw [List.replicate_zero, List.append_nil]; exact h
  | succ n ih =>
    have k := OK.un (v := none) (ih (by unfold ES; rw [List.zipWith_append (by rw [List.length_map]; exact hl)]; congr 1; exact List.zipWith_replicate' ..))
    refine k.perm ?_
    rw [List.replicate_succ, ← List.append_assoc, ← List.append_assoc]
    exact List.perm_middle.symm
/-- what a return hands back -/
def retOK (b : Nat) (ds : List IT) (Rel : List IT → IT → List Own → Prop) (r : SD) (t : S) : Prop := match r with
  | .d x => Rel ds (.d x) (t.R.take b)
  | .r j => b ≤ j ∧ ((∃ P, t.R[j]? = some P ∧ Rel ds (.o P) (t.R.take b)) ∨ ∃ es, t.R[j]? = some (OL es) ∧ Rel ds (.d (.list es)) (t.R.take b))
  | .un => False
def inSt (ds : List IT) (n : Nat) : S := ⟨sl ds 0 ++ List.replicate n .un, objs ds⟩
def inPo (ds : List IT) (Rel : List IT → IT → List Own → Prop) : Po := { b := (objs ds).length, nx := fun t => Rel ds (.d .none) (t.R.take (objs ds).length), rt := retOK (objs ds).length ds Rel }
theorem take_set {α : Type} {l : List α} {b j : Nat} {x : α} (h : b ≤ j) : (l.set j x).take b = l.take b := by
  apply List.ext_getElem?
  intro i
  by_cases hi : i < b
  · rw [List.getElem?_take_of_lt hi, List.getElem?_take_of_lt hi, List.getElem?_set_ne (by omega)]
  · rw [List.getElem?_eq_none (by rw [List.length_take]; omega), List.getElem?_eq_none (by rw [List.length_take]; omega)]
theorem run_body {Rel : List IT → IT → List Own → Prop} {ds : List IT} {T : List En} {vs : List V} {Q : VK} {N : List Str} {X : Cx} {body : List Stmt} (hK : X.K = K) (hl : ds.length = vs.length) (ok : OK K (ie ds vs ++ T) H) (q : ∀ z Os v H', Rel ds z Os → OK K ((z, some v) :: (ie (back ds Os) vs ++ T)) H' → Q v H')
    (h : ZSs X body (inSt ds (N.length - vs.length)) (inPo ds Rel)) : ∃ t, PSs X body t ∧ t { nx := fun _ H' => Q .non H', rt := Q } (start N vs) H := by
  refine ⟨_, h, inSt ds (N.length - vs.length), T, vals ds vs, rfl, Nat.le_of_eq (vals_len hl).symm, ?_, ?_⟩
  · refine ⟨?_, (vals_len hl).symm, fun i j e => ?_, ?_⟩
    · show (sl ds 0 ++ List.replicate _ _).length = (vs.map some ++ List.replicate _ none).length
      simp [sl_len, hl]
    · have e' : (sl ds 0 ++ List.replicate (N.length - vs.length) SD.un)[i]? = some (SD.r j) := e
      by_cases hi : i < (sl ds 0).length
      · rw [List.getElem?_append_left hi] at e'
        obtain ⟨_, v, h1, h2⟩ := sl_ref hl e'
        refine ⟨v, ?_, by simpa using h2⟩
        show (vs.map some ++ _)[i]? = _
        rw [List.getElem?_append_left (by rw [List.length_map, ← hl, ← sl_len (n := 0)]; exact hi), List.getElem?_map, h1]
        rfl
      · rw [List.getElem?_append_right (by omega)] at e'
        rw [List.getElem?_replicate] at e'
        split at e' <;> cases e'
    · rw [hK]
      have k := enter (n := 0) hl ok
      have k2 : OK K ((RS (objs ds) (vals ds vs) ++ T) ++ ES (sl ds 0) (vs.map some)) H := by
        refine k.perm ?_
        rw [← List.append_assoc]
        refine (List.perm_append_comm).trans ?_
        rw [← List.append_assoc]
      have k3 := es_un (sl ds 0) vs (N.length - vs.length) (T := RS (objs ds) (vals ds vs) ++ T) (by rw [sl_len]; exact hl) k2
      refine k3.perm ?_
      show (RS (objs ds) (vals ds vs) ++ T ++ ES (sl ds 0 ++ List.replicate (N.length - vs.length) SD.un) (vs.map some ++ List.replicate (N.length - vs.length) none)).Perm (T ++ (ES (sl ds 0 ++ List.replicate (N.length - vs.length) SD.un) (vs.map some ++ List.replicate (N.length - vs.length) none) ++ RS (objs ds) (vals ds vs)))
      rw [List.append_assoc]
      refine (List.perm_append_comm).trans ?_
      rw [List.append_assoc]
  · have lv := vals_len (ds := ds) (vs := vs) hl
    have tk : (vals ds vs).take (inPo ds Rel).b = vals ds vs := List.take_of_length_le (by rw [lv]; exact Nat.le_refl _)
    rw [tk, hK]
    -- out of the end's state: the objects of the arguments
    have out : ∀ {s' : S} {σ' : L2.St} {ρ' : List V} {H' : Hp} {A : List En}, vals ds vs <+: ρ' → Sat K s' σ' ρ' (A ++ T) H' → OK K (A ++ (ie (back ds (s'.R.take (objs ds).length)) vs ++ T)) H' := fun {s' σ' ρ' H' A} p g => by
      obtain ⟨m, rfl⟩ := p
      have lr := g.lr
      rw [List.length_append] at lr
      have q1 : RS s'.R (vals ds vs ++ m) = RS (s'.R.take (objs ds).length) (vals ds vs) ++ RS (s'.R.drop (objs ds).length) m := by
        unfold RS
        rw [← List.zipWith_append (by rw [List.length_take, lv]; omega), List.take_append_drop]
      have k := g.ok
      rw [q1] at k
      have k2 : OK K ((ES s'.e σ' ++ RS (s'.R.drop (objs ds).length) m) ++ ((A ++ T) ++ RS (s'.R.take (objs ds).length) (vals ds vs))) H' := by
        refine k.perm ?_
        simp only [List.append_assoc]
        refine ((cas T _ _).append_left A).trans ?_
        refine (cas A _ _).trans ?_
        refine List.Perm.append_left _ ?_
        refine ((List.Perm.append_left T (List.perm_append_comm)).append_left A).trans ?_
        refine ((cas T _ _).append_left A).trans ?_
        exact cas A _ _
      have k3 := leave hl (by rw [List.length_take]; omega) k2.right
      exact k3.perm (cas _ _ _)
    refine ⟨fun s' σ' ρ' H' a p g => ?_, fun r s' σ' ρ' H' v a p vr g => ?_, fun _ _ _ _ z => z.elim, fun _ _ _ _ z => z.elim⟩
    · exact q _ _ .non H' a (OK.flat (show flat .non .none from trivial) (out (A := []) p g))
    · cases r with
      | un => exact a.elim
      | d x => exact q _ _ v H' a (out (A := [(IT.d x, some v)]) p g)
      | r j =>
        obtain ⟨hb, a⟩ := a
        rcases a with ⟨P, hP, a⟩ | ⟨es, hP, a⟩
        · obtain ⟨w, e2, ok2, _⟩ := g.obj hP
          have ev : w = v := Option.some.inj (e2.symm.trans vr)
          subst ev
          -- the object's own place is given up
          have g3 : Sat K ⟨s'.e, s'.R.set j gone⟩ σ' ρ' ([(IT.o P, some w)] ++ T) H' := by
            refine ZE.frz.back2 (P := P) (T2 := [(IT.o P, some w)] ++ T) g hP e2 ?_
            have k := (OK.perm (List.Perm.swap _ _ _) ok2).tail
            obtain ⟨F2, L, e1, gg⟩ := k
            have c := gg.oCons (v := w) (P := gone) (fp := []) rfl List.nodup_nil (fun a ha => by cases ha) (fun a ha => by cases ha)
            exact ⟨F2, (((IT.o gone, some w), []) :: L), by rw [List.map_cons, e1]; rfl, c⟩
          refine q _ _ w H' a ?_
          have k := out p g3
          rw [show (⟨s'.e, s'.R.set j gone⟩ : S).R = s'.R.set j gone from rfl, take_set hb] at k
          exact k
        · obtain ⟨w, e2, ok2, _⟩ := g.obj hP
          have ev : w = v := Option.some.inj (e2.symm.trans vr)
          subst ev
          obtain ⟨F, f⟩ := ok2.fz
          have g3 : Sat K ⟨s'.e, s'.R.set j gone⟩ σ' ρ' ([(IT.d (.list es), some w)] ++ T) H' := by
            refine ZE.frz.back2 (P := OL es) (T2 := [(IT.d (.list es), some w)] ++ T) g hP e2 ?_
            have k := (OK.perm (List.Perm.swap _ _ _) f.freeze).tail
            obtain ⟨F2, L, e1, gg⟩ := k
            have c := gg.oCons (v := w) (P := gone) (fp := []) rfl List.nodup_nil (fun a ha => by cases ha) (fun a ha => by cases ha)
            exact ⟨F2, (((IT.o gone, some w), []) :: L), by rw [List.map_cons, e1]; rfl, c⟩
          refine q _ _ w H' a ?_
          have k := out p g3
          rw [show (⟨s'.e, s'.R.set j gone⟩ : S).R = s'.R.set j gone from rfl, take_set hb] at k
          exact k
end
end Z

namespace Z
open PySem L2 PyProof.Rows

abbrev Pre := List IT → Prop
abbrev Rel := List IT → IT → List Own → Prop
/-- a def that may be called by its name and raises nothing -/
structure Cal (P : Program) (w : World) (K : PySem.W.Frag) (mg : Str → Option Value) (base : Heap) (k : Nat) (x : Str) (pre : Pre) (rel : Rel) : Prop where
  ex : ∃ (f : Addr) (fd : FuncData) (ps : List Str), FnOk P w K mg base CX0 k f fd ps (spZ K pre rel) ∧ mg x = some (.ref f) ∧ PySem.W.keepIn K (.ref f) = true ∧ Binds K fd ps []
/-- the text of a def, by its name: what the top has left -/
structure Dfn (K : PySem.W.Frag) (mg : Str → Option Value) (x : Str) (st : Stmt) (ps : List Str) : Prop where
  ex : ∃ (f : Addr) (fd : FuncData), Fun K x x st f fd ∧ mg x = some (.ref f) ∧ Binds K fd ps []
section
variable {P : Program} {w : World} {K : PySem.W.Frag} {mg : Str → Option Value} {base : Heap} {x : Str} {st : Stmt} {ps N : List Str} {k : Nat} {pre : Pre} {rel : Rel}
theorem Cal.mono {j : Nat} (c : Cal P w K mg base k x pre rel) (h : k ≤ j) : Cal P w K mg base j x pre rel := let ⟨f, fd, ps, F, r⟩ := c.ex; ⟨f, fd, ps, F.mono h, r⟩
theorem Cal.imp {pre' : Pre} {rel' : Rel} (c : Cal P w K mg base k x pre rel) (h1 : ∀ ds, pre' ds → pre ds) (h2 : ∀ ds z Os, pre' ds → rel ds z Os → rel' ds z Os) : Cal P w K mg base k x pre' rel' :=
  let ⟨f, fd, ps, F, r⟩ := c.ex; ⟨f, fd, ps, F.imp fun vs H Q E ⟨ds, T, a, b, c, d⟩ => ⟨ds, T, h1 _ a, b, c, fun z Os v H' q => d z Os v H' (h2 _ _ _ a q)⟩, r⟩
end
section
variable {X : Cx} {e : Expr} {es : List Expr} {s s1 s2 : S} {rs : List SD} {pos p : Pos} {x : Str} {k j : Nat} {pre : Pre} {rel : Rel} {ds as bs : List PyData} {zd : PyData}
end
end Z

namespace Z
open PySem L2 PyProof.Rows

section
variable {A : Type} (args : A → List IT) (ask : A → Prop) (res : A → IT) (outs : A → List Own)
def preOf : Pre := fun ds => ∃ x, ask x ∧ ds = args x
def relOf : Rel := fun ds z Os => ∀ x, ask x → ds = args x → z = res x ∧ Os = outs x
end
/-- what a return is to be -/
def retS (b : Nat) (z0 : IT) (O0 : List Own) (r : SD) (t : S) : Prop := match r with
  | .d x => z0 = .d x ∧ t.R.take b = O0
  | .r j => b ≤ j ∧ ((∃ P, t.R[j]? = some P ∧ z0 = .o P) ∨ ∃ es, t.R[j]? = some (OL es) ∧ z0 = .d (.list es)) ∧ t.R.take b = O0
  | .un => False
def poS (b : Nat) (z0 : IT) (O0 : List Own) : Po := { b := b, nx := fun t => z0 = .d .none ∧ t.R.take b = O0, rt := retS b z0 O0 }
theorem PSs.wk {X : Cx} {sts : List Stmt} {s : S} {P Q : Po} (h : ZSs X sts s P) (hb : Q.b = P.b) (h1 : ∀ t, P.nx t → Q.nx t) (h2 : ∀ r t, P.rt r t → Q.rt r t) (h3 : ∀ t, P.bk t → Q.bk t) (h4 : ∀ t, P.ct t → Q.ct t) : ZSs X sts s Q :=
  PSs.imp h fun D σ H ⟨t, T, ρ, e1, b, g, q⟩ => ⟨t, T, ρ, e1, by rw [← hb]; exact b, g, by
    rw [hb] at q
    exact ⟨fun s' σ' ρ' H' a => q.nx s' σ' ρ' H' (h1 _ a), fun r s' σ' ρ' H' v a => q.rt r s' σ' ρ' H' v (h2 _ _ a), fun s' σ' ρ' H' a => q.bk s' σ' ρ' H' (h3 _ a), fun s' σ' ρ' H' a => q.ct s' σ' ρ' H' (h4 _ a)⟩⟩
section
variable {P : Program} {w : World} {K : PySem.W.Frag} {mg : Str → Option Value} {base : Heap} {x : Str} {st : Stmt} {ps N : List Str} {k : Nat}
variable {A : Type} {args : A → List IT} {ask : A → Prop} {res : A → IT} {outs : A → List Own}
end
section
variable {X : Cx} {e : Expr} {es : List Expr} {s s1 s2 : S} {rs : List SD} {pos p : Pos} {x : Str} {k j : Nat} {zd : PyData} {O O' : Own}
variable {A : Type} {args : A → List IT} {ask : A → Prop} {res : A → IT} {outs : A → List Own}
end
end Z

namespace Z
open PySem L2 PyProof.Rows

noncomputable instance decPD : DecidableEq PyData := fun a b => Classical.propDecidable (a = b)
mutual
def isAt (h : Heap) : PyData → Value → Prop
  | .int i, v => ∃ t, v = .int i t
  | .str x, v => ∃ t, v = .str x t
  | .tuple ds, v => ∃ a, v = .ref a ∧ ∃ o its n, h.get? a = some o ∧ o.cls = .type "tuple" ∧ o.data = .seq its n ∧ isAts h ds its.toList
  | _, _ => False
def isAts (h : Heap) : List PyData → List Value → Prop
  | [], [] => True
  | d :: ds, v :: vs => isAt h d v ∧ isAts h ds vs
  | _, _ => False
end
mutual
def dep : PyData → Nat
  | .tuple ds => deps ds + 1
  | _ => 0
def deps : List PyData → Nat
  | [] => 0
  | d :: ds => max (dep d) (deps ds)
end
mutual
def hashD (w : World) : PyData → Int
  | .int i => hashInt i
  | .str x => hashStr w x
  | .tuple ds => reduceHash (Builtin.Tuple.tupleHashOf (hashDs w ds))
  | _ => 0
def hashDs (w : World) : List PyData → List Int
  | [] => []
  | d :: ds => hashD w d :: hashDs w ds
end
mutual
def drw : PyData → Nat
  | .tuple ds => drws ds + 1
  | _ => 1
def drws : List PyData → Nat
  | [] => 0
  | d :: ds => drw d + drws ds
end
mutual
theorem isAt_inj {h : Heap} : ∀ {x y : PyData} {v : Value}, isAt h x v → isAt h y v → x = y
  | .int i, y, v, hx, hy => by
    obtain ⟨t, rfl⟩ := hx
    cases y with
    | int j => obtain ⟨t', e⟩ := hy; injection e with e1 _; rw [e1]
    | str => obtain ⟨t', e⟩ := hy; cases e
    | tuple => obtain ⟨a, e, _⟩ := hy; cases e
    | _ => exact hy.elim
  | .str i, y, v, hx, hy => by
    obtain ⟨t, rfl⟩ := hx
    cases y with
    | str j => obtain ⟨t', e⟩ := hy; injection e with e1 _; rw [e1]
    | int => obtain ⟨t', e⟩ := hy; cases e
    | tuple => obtain ⟨a, e, _⟩ := hy; cases e
    | _ => exact hy.elim
  | .tuple ds, y, v, hx, hy => by
    obtain ⟨a, rfl, o, its, n, h1, h2, h3, h4⟩ := hx
    cases y with
    | int j => obtain ⟨t', e⟩ := hy; cases e
    | str => obtain ⟨t', e⟩ := hy; cases e
    | tuple es =>
      obtain ⟨a', e, o', its', n', g1, g2, g3, g4⟩ := hy
      cases e
      rw [h1] at g1
      cases g1
      rw [h3] at g3
      cases g3
      rw [isAts_inj h4 g4]
    | _ => exact hy.elim
  | .none, _, _, hx, _ => hx.elim
  | .bool _, _, _, hx, _ => hx.elim
  | .list _, _, _, hx, _ => hx.elim
  | .dict _, _, _, hx, _ => hx.elim
theorem isAts_inj {h : Heap} : ∀ {x y : List PyData} {v : List Value}, isAts h x v → isAts h y v → x = y
  | [], [], [], _, _ => rfl
  | [], _ :: _, [], _, hy => hy.elim
  | _ :: _, _, [], hx, _ => hx.elim
  | [], _, _ :: _, hx, _ => hx.elim
  | _ :: _, [], _ :: _, _, hy => hy.elim
  | d :: ds, e :: es, v :: vs, hx, hy => by rw [isAt_inj hx.1 hy.1, isAts_inj hx.2 hy.2]
end
mutual
theorem isAt_keep {h h' : Heap} (k : ∀ a o its n, h.get? a = some o → o.data = .seq its n → h'.get? a = some o) : ∀ {x : PyData} {v : Value}, isAt h x v → isAt h' x v
  | .int i, v, hx => hx
  | .str i, v, hx => hx
  | .tuple ds, v, hx => by
    obtain ⟨a, e, o, its, n, h1, h2, h3, h4⟩ := hx
    exact ⟨a, e, o, its, n, k a o its n h1 h3, h2, h3, isAts_keep k h4⟩
  | .none, _, hx => hx.elim
  | .bool _, _, hx => hx.elim
  | .list _, _, hx => hx.elim
  | .dict _, _, hx => hx.elim
theorem isAts_keep {h h' : Heap} (k : ∀ a o its n, h.get? a = some o → o.data = .seq its n → h'.get? a = some o) : ∀ {x : List PyData} {v : List Value}, isAts h x v → isAts h' x v
  | [], [], _ => trivial
  | [], _ :: _, hx => hx.elim
  | _ :: _, [], hx => hx.elim
  | d :: ds, v :: vs, hx => ⟨isAt_keep k hx.1, isAts_keep k hx.2⟩
end
theorem isAts_len {h : Heap} : ∀ {x : List PyData} {v : List Value}, isAts h x v → x.length = v.length
  | [], [], _ => rfl
  | [], _ :: _, hx => hx.elim
  | _ :: _, [], hx => hx.elim
  | d :: ds, v :: vs, hx => by simp [isAts_len hx.2]
section
variable {prog : Program} {w : World}
theorem hash_tup (A : Around) (E : Value → Shared → Prop) (ds : List PyData) (ih : ∀ d ∈ ds, ∀ (s : Shared) (v : Value) (Q : Int → Shared → Prop), isAt s.heap d v → Q (hashD w d) { s with toks := s.toks + drw d } → wpAny (model prog w) A.in1 (pyHash v) Q E s)
    (s : Shared) (v : Value) (Q : Int → Shared → Prop) (hu : A.units < cLine) (hx : isAt s.heap (.tuple ds) v) (h : Q (hashD w (.tuple ds)) { s with toks := s.toks + drw (.tuple ds) }) : wpAny (model prog w) A (pyHash v) Q E s := by
  obtain ⟨a, rfl, o, its, n, ho, hc, hd, hi⟩ := hx
  have hT : s.TypeIs (.ref a) "tuple" := ⟨o, ho, hc⟩
  unfold pyHash pyHashByItsType
  refine wpAny_bind (wpAny_cRoomFor_or (.inr hu) ?_)
  refine wpAny_bind (wpAny_specialOf hT F.slot_tuple_hash.lookup ?_)
  have nn : (some (Value.builtin "tuple.__hash__") == some Value.none) = false := beq_builtin_none ..
  dsimp only
  rw [if_neg (by rw [nn]; exact Bool.false_ne_true)]
  refine wpAny_bind (wpAny_specialOf hT F.slot_tuple_hash.lookup ?_)
  refine wpAny_bind (wpAny_callSpecialIfBoundUnlessNone?_slot hT F.slot_tuple_hash (wpAny_call_entry F.slot_tuple_hash hT F.entry_tuple_hash ?_ (F.args_tuple_hash_1 _)))
  show wpAny _ _ (Builtin.Tuple.tupleItemsOf (.ref a) >>= _) _ _ s
  refine wpAny_bind (wpAny_tupleItemsOf ho hd ?_)
  refine wpAny_bind ?_
  rw [← Array.forIn_toList]
  refine wpAny_forIn_list _ (fun rest (b : Array Int) s' => ∃ xs ys, ds = xs ++ ys ∧ isAts s.heap ys rest ∧ b.toList = hashDs w xs ∧ s' = { s with toks := s.toks + drws xs }) _ ?_ ?_ _ _ ⟨[], ds, rfl, hi, rfl, rfl⟩
  · rintro x rest b s' ⟨xs, ys, e1, e2, e3, rfl⟩
    cases ys with
    | nil => exact e2.elim
    | cons y ys =>
      refine wpAny_bind (ih y (by rw [e1]; simp) _ x _ e2.1 ?_)
      refine wpAny_pure ⟨xs ++ [y], ys, by rw [e1]; simp, e2.2, ?_, ?_⟩
      · rw [Array.toList_push, e3]
        clear e1 e3
        induction xs with
        | nil => rfl
        | cons z zs ihz =>
          show hashD w z :: (hashDs w zs ++ [hashD w y]) = hashD w z :: hashDs w (zs ++ [y])
          rw [ihz]
      · have dl : ∀ l : List PyData, drws (l ++ [y]) = drws l + drw y := fun l => by
          induction l with
          | nil => show drw y + 0 = 0 + drw y; omega
          | cons z zs ihz => show drw z + drws (zs ++ [y]) = drw z + drws zs + drw y; rw [ihz]; omega
        rw [dl, Nat.add_assoc]
  · rintro b s' ⟨xs, ys, e1, e2, e3, rfl⟩
    cases ys with
    | cons y ys => exact e2.elim
    | nil =>
      rw [List.append_nil] at e1
      subst e1
      show wpAny _ _ (retInt (Builtin.Tuple.tupleHashOf b.toList)) _ _ _
      rw [e3]
      refine wpAny_ret_mkInt ?_
      have hh : Q (reduceHash (Builtin.Tuple.tupleHashOf (hashDs w ds))) { s with toks := s.toks + (drws ds + 1) } := h
      unfold reduceHash at hh
      show wpAny _ _ (pyHashByItsType.reduced (Builtin.Tuple.tupleHashOf (hashDs w ds))) Q E _
      unfold pyHashByItsType.reduced
      by_cases hr : (decide (-(2 : Int) ^ 63 ≤ Builtin.Tuple.tupleHashOf (hashDs w ds)) && decide (Builtin.Tuple.tupleHashOf (hashDs w ds) < 2 ^ 63)) = true
      · rw [if_pos hr] at hh ⊢
        exact wpAny_pure (by rw [Nat.add_assoc]; exact hh)
      · rw [if_neg hr] at hh ⊢
        exact wpAny_bind (wpAny_rule (wpAny_pure (by rw [Nat.add_assoc]; exact hh)))
theorem dep_mem : ∀ {ds : List PyData} {d : PyData}, d ∈ ds → dep d ≤ deps ds
  | [], d, h => by simp at h
  | e :: es, d, h => by
    have h1 : deps (e :: es) = max (dep e) (deps es) := rfl
    rcases List.mem_cons.mp h with z | z
    · subst z; omega
    · have := dep_mem z; omega
def HP (prog : Program) (w : World) (E : Value → Shared → Prop) (d : PyData) : Prop := ∀ (A : Around) (s : Shared) (v : Value) (Q : Int → Shared → Prop), A.units + dep d < cLine → isAt s.heap d v → Q (hashD w d) { s with toks := s.toks + drw d } → wpAny (model prog w) A (pyHash v) Q E s
mutual
theorem hash_at (E : Value → Shared → Prop) : ∀ (d : PyData), HP prog w E d
  | .int i => fun A s v Q hu hx h => by
    obtain ⟨t, rfl⟩ := hx
    exact wpAny_pyHash_int h
  | .str i => fun A s v Q hu hx h => by
    obtain ⟨t, rfl⟩ := hx
    exact wpAny_pyHash_str h
  | .tuple ds => fun A s v Q hu hx h => by
    have e : dep (.tuple ds) = deps ds + 1 := rfl
    have l := hash_all E ds
    exact hash_tup A E ds (fun d hd s v Q hx h => l d hd A.in1 s v Q (by have := dep_mem hd; show A.units + 1 + dep d < cLine; omega) hx h) s v Q (by omega) hx h
  | .none => fun _ _ _ _ _ hx _ => hx.elim
  | .bool _ => fun _ _ _ _ _ hx _ => hx.elim
  | .list _ => fun _ _ _ _ _ hx _ => hx.elim
  | .dict _ => fun _ _ _ _ _ hx _ => hx.elim
theorem hash_all (E : Value → Shared → Prop) : ∀ (ds : List PyData), ∀ d ∈ ds, HP prog w E d
  | [] => fun d hd => by simp at hd
  | e :: es => fun d hd => by
    have h1 := hash_at E e
    have h2 := hash_all E es
    rcases List.mem_cons.mp hd with z | z
    · rw [z]; exact h1
    · exact h2 d z
end
theorem eq_tup (A : Around) (E : Value → Shared → Prop) (ds es : List PyData) (ih : ∀ d ∈ ds, ∀ (e : PyData) (s : Shared) (u v : Value) (Q : Bool → Shared → Prop) (E : Value → Shared → Prop), isAt s.heap d u → isAt s.heap e v → Q (decide (d = e)) s → wpAny (model prog w) A.in1 (eqBool u v) Q E s)
    (s : Shared) (u v : Value) (Q : Bool → Shared → Prop) (hu : A.units < cLine) (hx : isAt s.heap (.tuple ds) u) (hy : isAt s.heap (.tuple es) v) (h : Q (decide (PyData.tuple ds = PyData.tuple es)) s) : wpAny (model prog w) A (eqBool u v) Q E s := by
  have hx0 := hx
  have hy0 := hy
  obtain ⟨a, rfl, oa, xs, na, hoa, hca, hda, hia⟩ := hx
  obtain ⟨b, rfl, ob, ys, nb, hob, hcb, hdb, hib⟩ := hy
  have hTa : s.TypeIs (.ref a) "tuple" := ⟨oa, hoa, hca⟩
  have hTb : s.TypeIs (.ref b) "tuple" := ⟨ob, hob, hcb⟩
  unfold eqBool
  refine wpAny_holding ?_
  by_cases hab : (Value.ref a == Value.ref b) = true
  · rw [if_pos hab]
    have e : a = b := by have := eq_of_beq hab; injection this
    subst e
    have e2 := isAt_inj hx0 hy0
    rw [decide_eq_true e2] at h
    exact wpAny_bind (wpAny_rule (wpAny_pure h))
  · rw [if_neg hab]
    refine wpAny_bind (wpAny_richCompare_same_room (op := .Eq) hTa hTb F.slot_tuple_eq (wpAny_call_entry F.slot_tuple_eq hTa F.entry_tuple_eq ?_ (F.args_tuple_eq_2 _ _)) hu)
    show wpAny _ _ (isInstance (.ref b) (.type "tuple") >>= _) _ _ s
    refine wpAny_bind (wpAny_isInstance hTb isSubtype_tuple_tuple ?_)
    simp only [Bool.not_true, Bool.false_eq_true, if_false]
    refine wpAny_bind (wpAny_tupleItemsOf hoa hda ?_)
    refine wpAny_bind (wpAny_tupleItemsOf hob hdb ?_)
    refine wpAny_bind ?_
    refine wpAny_forIn_list _ (fun rest r s' => r.1 = none ∧ s' = s ∧ ∃ ds1 ds2 es2 xs2 ys2, ds = ds1 ++ ds2 ∧ rest = List.zip xs2 ys2 ∧ isAts s.heap ds2 xs2 ∧ isAts s.heap es2 ys2 ∧ (ds = es ↔ ds2 = es2) ∧ (xs2.length == ys2.length) = (xs.size == ys.size)) _ ?_ ?_ _ _
      ⟨rfl, rfl, [], ds, es, xs.toList, ys.toList, rfl, rfl, hia, hib, Iff.rfl, by simp⟩
    · rintro ⟨p, q⟩ rest r s' ⟨hr, rfl, ds1, ds2, es2, xs2, ys2, e0, hz, hx', hy', hiff, hlen⟩
      match ds2, xs2, es2, ys2, hx', hy', hz with
      | d :: ds2, x :: xs2, e :: es2, y :: ys2, hx', hy', hz =>
        simp only [List.zip_cons_cons, List.cons.injEq, Prod.mk.injEq] at hz
        obtain ⟨⟨rfl, rfl⟩, rfl⟩ := hz
        refine wpAny_bind (ih d (by rw [e0]; simp) e _ p q _ _ hx'.1 hy'.1 ?_)
        by_cases hde : d = e
        · subst hde
          rw [decide_eq_true rfl]
          simp only [Bool.not_true, Bool.false_eq_true, if_false]
          exact wpAny_pure ⟨rfl, rfl, ds1 ++ [d], ds2, es2, xs2, ys2, by rw [e0]; simp, rfl, hx'.2, hy'.2, by rw [hiff]; simp, by simpa using hlen⟩
        · rw [decide_eq_false hde]
          simp only [Bool.not_false, if_true]
          have nf : ¬ PyData.tuple ds = PyData.tuple es := fun z => hde (by
            injection z with z
            have := hiff.mp z
            injection this)
          rw [decide_eq_false nf] at h
          exact wpAny_bind (wpAny_pure (wpAny_pure (wpAny_pure ⟨_, rfl, (fun z => nomatch z), wpAny_truthy_bool h⟩)))
      | [], [], _, _, _, _, hz => simp at hz
      | _ :: _, _ :: _, [], [], _, _, hz => simp at hz
      | [], _ :: _, _, _, hx', _, _ => exact hx'.elim
      | _ :: _, [], _, _, hx', _, _ => exact hx'.elim
      | _ :: _, _ :: _, [], _ :: _, _, hy', _ => exact hy'.elim
      | _ :: _, _ :: _, _ :: _, [], _, hy', _ => exact hy'.elim
    · rintro ⟨r1, r2⟩ s' ⟨hr, rfl, ds1, ds2, es2, xs2, ys2, e0, hz, hx', hy', hiff, hlen⟩
      simp only at hr
      subst hr
      refine wpAny_pure ?_
      have fin : (xs.size == ys.size) = decide (PyData.tuple ds = PyData.tuple es) := by
        rw [← hlen]
        have l1 := isAts_len hx'
        have l2 := isAts_len hy'
        have z : xs2 = [] ∨ ys2 = [] := by
          cases xs2 with
          | nil => exact .inl rfl
          | cons x xs2 => cases ys2 with
            | nil => exact .inr rfl
            | cons y ys2 => simp at hz
        by_cases q : ds2 = es2
        · have e1 : PyData.tuple ds = PyData.tuple es := by rw [hiff.mpr q]
          rw [decide_eq_true e1, ← l1, ← l2, q]
          simp
        · have e1 : ¬ PyData.tuple ds = PyData.tuple es := fun w => q (hiff.mp (by injection w))
          rw [decide_eq_false e1, beq_eq_false_iff_ne, ← l1, ← l2]
          intro w
          apply q
          rcases z with z | z
          · subst z
            have a1 : ds2 = [] := List.eq_nil_of_length_eq_zero l1
            subst a1
            exact (List.eq_nil_of_length_eq_zero w.symm).symm
          · subst z
            have a1 : es2 = [] := List.eq_nil_of_length_eq_zero l2
            subst a1
            exact List.eq_nil_of_length_eq_zero w
      show ∃ _, _
      refine ⟨_, rfl, (fun z => nomatch z), ?_⟩
      refine wpAny_truthy_bool ?_
      rw [fin]
      exact h
def EP1 (prog : Program) (w : World) (d : PyData) : Prop := ∀ (A : Around) (s : Shared) (e : PyData) (u v : Value) (Q : Bool → Shared → Prop) (E : Value → Shared → Prop), A.units + dep d < cLine → isAt s.heap d u → isAt s.heap e v → Q (decide (d = e)) s → wpAny (model prog w) A (eqBool u v) Q E s
theorem at_tup {h : Heap} {ds : List PyData} {v : Value} (hx : isAt h (.tuple ds) v) : ∃ a its, v = .ref a ∧ h.IsTuple a its := by
  obtain ⟨a, e, o, its, n, h1, h2, h3, _⟩ := hx
  exact ⟨a, its, e, o, h1, h2, n, h3⟩
mutual
theorem eq_at : ∀ (d : PyData), EP1 prog w d
  | .int i => fun A s e u v Q E hu hx hy h => by
    obtain ⟨t, rfl⟩ := hx
    cases e with
    | int j =>
      obtain ⟨t', rfl⟩ := hy
      refine SeqAt.EqAt.int_int i t j t' prog w E Q ?_
      have e : decide (PyData.int i = PyData.int j) = (i == j) := by rw [Bool.eq_iff_iff]; simp
      rw [← e]
      exact h
    | str x =>
      obtain ⟨t', rfl⟩ := hy
      exact SeqAt.EqAt.int_str i t x t' prog w E Q (by rw [decide_eq_false (fun z => by cases z)] at h; exact h)
    | tuple es =>
      obtain ⟨a, its, rfl, hT⟩ := at_tup hy
      exact SeqAt.EqAt.int_tuple i t hT (by omega) prog w E Q (by rw [decide_eq_false (fun z => by cases z)] at h; exact h)
    | _ => exact hy.elim
  | .str x => fun A s e u v Q E hu hx hy h => by
    obtain ⟨t, rfl⟩ := hx
    cases e with
    | int j =>
      obtain ⟨t', rfl⟩ := hy
      exact SeqAt.EqAt.str_int x t j t' prog w E Q (by rw [decide_eq_false (fun z => by cases z)] at h; exact h)
    | str y =>
      obtain ⟨t', rfl⟩ := hy
      refine SeqAt.EqAt.str_str x t y t' prog w E Q ?_
      have e : decide (PyData.str x = PyData.str y) = (x == y) := by rw [Bool.eq_iff_iff]; simp
      rw [← e]
      exact h
    | tuple es =>
      obtain ⟨a, its, rfl, hT⟩ := at_tup hy
      exact SeqAt.EqAt.str_tuple x t hT (by omega) prog w E Q (by rw [decide_eq_false (fun z => by cases z)] at h; exact h)
    | _ => exact hy.elim
  | .tuple ds => fun A s e u v Q E hu hx hy h => by
    have e1 : dep (.tuple ds) = deps ds + 1 := rfl
    have l := eq_all ds
    cases e with
    | int j =>
      obtain ⟨t', rfl⟩ := hy
      obtain ⟨a, its, rfl, hT⟩ := at_tup hx
      exact SeqAt.EqAt.tuple_int j t' hT (by omega) prog w E Q (by rw [decide_eq_false (fun z => by cases z)] at h; exact h)
    | str y =>
      obtain ⟨t', rfl⟩ := hy
      obtain ⟨a, its, rfl, hT⟩ := at_tup hx
      exact SeqAt.EqAt.tuple_str y t' hT (by omega) prog w E Q (by rw [decide_eq_false (fun z => by cases z)] at h; exact h)
    | tuple es => exact eq_tup A E ds es (fun d hd e s u v Q E hx hy h => l d hd A.in1 s e u v Q E (by have := dep_mem hd; show A.units + 1 + dep d < cLine; omega) hx hy h) s u v Q (by omega) hx hy h
    | _ => exact hy.elim
  | .none => fun _ _ _ _ _ _ _ _ hx _ _ => hx.elim
  | .bool _ => fun _ _ _ _ _ _ _ _ hx _ _ => hx.elim
  | .list _ => fun _ _ _ _ _ _ _ _ hx _ _ => hx.elim
  | .dict _ => fun _ _ _ _ _ _ _ _ hx _ _ => hx.elim
theorem eq_all : ∀ (ds : List PyData), ∀ d ∈ ds, EP1 prog w d
  | [] => fun d hd => by simp at hd
  | e :: es => fun d hd => by
    have h1 := eq_at e
    have h2 := eq_all es
    rcases List.mem_cons.mp hd with z | z
    · rw [z]; exact h1
    · exact h2 d z
end
theorem quiet_tup {A : Around} {E : Value → Shared → Prop} {s : Shared} (n : Nat) (ds : List PyData) (ih : ∀ d ∈ ds, ∀ (v : Value) (Q : Bool → Shared → Prop), isAt s.heap d v → Q true s → wpAny (model prog w) A (eqIsQuiet n v) Q E s)
    (v : Value) (Q : Bool → Shared → Prop) (hx : isAt s.heap (.tuple ds) v) (h : Q true s) : wpAny (model prog w) A (eqIsQuiet (n + 1) v) Q E s := by
  obtain ⟨a, rfl, o, its, m, ho, hc, hd, hi⟩ := hx
  have hT : s.TypeIs (.ref a) "tuple" := ⟨o, ho, hc⟩
  unfold eqIsQuiet
  refine wpAny_bind (wpAny_specialOf hT F.slot_tuple_eq.lookup ?_)
  show wpAny _ _ (isInstance (.ref a) (.type "tuple") >>= _) _ _ s
  refine wpAny_bind (wpAny_isInstance hT isSubtype_tuple_tuple ?_)
  simp only [Bool.not_true, Bool.false_eq_true, if_false]
  refine wpAny_bind (wpAny_seqItems ho hd ?_)
  refine wpAny_bind ?_
  show wpAny _ _ (forIn its _ _) _ _ s
  rw [← Array.forIn_toList]
  refine wpAny_forIn_list _ (fun rest r s' => r.1 = none ∧ s' = s ∧ ∃ d1 d2, ds = d1 ++ d2 ∧ isAts s.heap d2 rest) _ ?_ ?_ _ _ ⟨rfl, rfl, [], ds, rfl, hi⟩
  · rintro v rest r s' ⟨hr, rfl, d1, d2, e1, e2⟩
    cases d2 with
    | nil => exact e2.elim
    | cons d d2 =>
      refine wpAny_bind (ih d (by rw [e1]; simp) v _ e2.1 ?_)
      simp only [Bool.not_true, Bool.false_eq_true, if_false]
      exact wpAny_pure ⟨rfl, rfl, d1 ++ [d], d2, by rw [e1]; simp, e2.2⟩
  · rintro ⟨r1, r2⟩ s' ⟨hr, rfl, _⟩
    simp only at hr
    subst hr
    exact wpAny_pure h
def QP (prog : Program) (w : World) (d : PyData) : Prop := ∀ (A : Around) (E : Value → Shared → Prop) (s : Shared) (n : Nat) (v : Value) (Q : Bool → Shared → Prop), dep d ≤ n → isAt s.heap d v → Q true s → wpAny (model prog w) A (eqIsQuiet n v) Q E s
mutual
theorem quiet_at : ∀ (d : PyData), QP prog w d
  | .int i => fun A E s n v Q hn hx h => by
    obtain ⟨t, rfl⟩ := hx
    rw [eqIsQuiet_byValue n rfl]
    exact wpAny_pure h
  | .str i => fun A E s n v Q hn hx h => by
    obtain ⟨t, rfl⟩ := hx
    rw [eqIsQuiet_byValue n rfl]
    exact wpAny_pure h
  | .tuple ds => fun A E s n v Q hn hx h => by
    have e1 : dep (.tuple ds) = deps ds + 1 := rfl
    have l := quiet_all ds
    cases n with
    | zero => omega
    | succ n => exact quiet_tup n ds (fun d hd v Q hx h => l d hd A E s n v Q (by have := dep_mem hd; omega) hx h) v Q hx h
  | .none => fun _ _ _ _ _ _ _ hx _ => hx.elim
  | .bool _ => fun _ _ _ _ _ _ _ hx _ => hx.elim
  | .list _ => fun _ _ _ _ _ _ _ hx _ => hx.elim
  | .dict _ => fun _ _ _ _ _ _ _ hx _ => hx.elim
theorem quiet_all : ∀ (ds : List PyData), ∀ d ∈ ds, QP prog w d
  | [] => fun d hd => by simp at hd
  | e :: es => fun d hd => by
    have h1 := quiet_at e
    have h2 := quiet_all es
    rcases List.mem_cons.mp hd with z | z
    · rw [z]; exact h1
    · exact h2 d z
end
end
/-- tuples as keys -/
noncomputable def dkind (prog : Program) (w : World) : HeapKind prog w PyData where
  is := fun h d a => dep d ≤ 8 ∧ isAt h d (.ref a)
  hash := hashD w
  draws := drw
  room := fun A => A.units + 10 < cLine
  inj := fun hx hy => isAt_inj hx.2 hy.2
  keeps := fun {h h' k a d o es ep} hx ho hd hs => ⟨hx.1, isAt_keep (fun b ob its n e1 e2 => by
    by_cases hb : b = d
    · subst hb
      rw [ho] at e1
      cases e1
      rw [hd] at e2
      cases e2
    · exact (hs.2 b hb).trans e1) hx.2⟩
  pyHash := fun {A E s k a Q} hu hx h => hash_at E k A s _ Q (by have := hx.1; omega) hx.2 h
  eqBool := fun {A E s x y a b Q} hu hx hy h => eq_at x A s y _ _ Q E (by have := hx.1; omega) hx.2 hy.2 h
  quiet := fun {A E s k a Q} hx h => quiet_at k A E s 8 _ Q hx.1 hx.2 h
end Z

namespace Z
open PySem L2 PyProof.Rows

mutual
def kOK : PyData → Bool
  | .int _ => true
  | .str _ => true
  | .tuple ds => kOKs ds
  | _ => false
def kOKs : List PyData → Bool
  | [] => true
  | d :: ds => kOK d && kOKs ds
end
abbrev DEn := PyData × Addr × Value
def DxO (P : Program) (w : World) (a : Addr) (xs : List DEn) : HO := .ext fun h => xs.length ≤ sizeLine ∧ (a == sysModules) = false ∧
  ∃ o es ep, h.get? a = some o ∧ o.ExactDict ∧ o.data = .dict es ep ∧ es.toList = xs.map (entryOfKey (dkind P w)) ∧ (xs.map (·.1)).Nodup
/-- a key as it stands -/
def KyD (K : PySem.W.Frag) (H : Hp) (a : Addr) (d : PyData) : Prop := Dp K H (.ref a) d ∧ kOK d = true ∧ dep d ≤ 8
section
variable {X : Cx} {pins : List (Addr × Obj)} {σ : L2.St} {H : Hp} {s : Shared}
mutual
theorem dp_at (I : Inv X pins σ H s) : ∀ (d : PyData) (v : V) (u : Value), kOK d = true → Dp X.K H v d → RelV v u → isAt s.heap d u
  | .int i, _, _, _, h, r => by cases h; exact r
  | .str i, _, _, _, h, r => by cases h; exact r
  | .tuple ds, _, _, k, h, r => by
    cases h with
    | tup hs ha =>
      cases r
      obtain ⟨its, rv, ⟨o, ho, hc, n, hd⟩, _⟩ := I.tuple hs
      exact ⟨_, rfl, o, _, n, ho, hc, hd, dps_at I ds _ its k ha rv⟩
  | .none, _, _, k, _, _ => by cases k
  | .bool _, _, _, k, _, _ => by cases k
  | .list _, _, _, k, _, _ => by cases k
  | .dict _, _, _, k, _, _ => by cases k
theorem dps_at (I : Inv X pins σ H s) : ∀ (ds : List PyData) (vs : List V) (us : List Value), kOKs ds = true → DpAll X.K H vs ds → Vals vs us → isAts s.heap ds us
  | [], _, _, _, h, r => by cases h; cases r; trivial
  | d :: ds, _, _, k, h, r => by
    cases h with
    | cons h1 h2 =>
      cases r with
      | cons r1 r2 =>
        have k' : (kOK d && kOKs ds) = true := k
        rw [Bool.and_eq_true] at k'
        exact ⟨dp_at I d _ _ k'.1 h1 r1, dps_at I ds _ _ k'.2 h2 r2⟩
end
theorem dx_of {P : Program} {w : World} {h : Heap} {a : Addr} {xs : List DEn} (ok : HOk P w H h) (e : H a = some (DxO P w a xs)) : xs.length ≤ sizeLine ∧ (a == sysModules) = false ∧ ∃ o es ep, h.get? a = some o ∧ o.ExactDict ∧ o.data = .dict es ep ∧ es.toList = xs.map (entryOfKey (dkind P w)) ∧ (xs.map (·.1)).Nodup := (ok a _ e).1
theorem dx_new {P : Program} {w : World} {h : Heap} {a : Addr} {xs : List DEn} (h1 : xs.length ≤ sizeLine) (h2 : (a == sysModules) = false) (h3 : ∃ o es ep, h.get? a = some o ∧ o.ExactDict ∧ o.data = .dict es ep ∧ es.toList = xs.map (entryOfKey (dkind P w)) ∧ (xs.map (·.1)).Nodup) : ObjOk P w H h a (DxO P w a xs) :=
  ⟨⟨h1, h2, h3⟩, let ⟨o, _, _, e, _⟩ := h3; ⟨o, e⟩, fun g1 g2 ⟨p1, p2, o, es, ep, e, r⟩ k => ⟨p1, p2, o, es, ep, k o e, r⟩⟩
theorem dx_H (I : Inv X pins σ H s) {a : Addr} {xs : List DEn} (e : H a = some (DxO X.prog X.w a xs)) (k : ∀ x ∈ xs, KyD X.K H x.2.1 x.1) : xs.length ≤ sizeLine ∧ (a == sysModules) = false ∧ s.heap.DictOfH (dkind X.prog X.w) a xs := by
  obtain ⟨h1, h2, o, es, ep, h3, h4, h5, h6, h7⟩ := dx_of I.hok e
  exact ⟨h1, h2, o, es, ep, h3, h4, h5, h6, fun x hx => ⟨(k x hx).2.2, dp_at I _ _ _ (k x hx).2.1 (k x hx).1 rfl⟩, h7⟩
theorem nd_sub {α : Type} [DecidableEq α] {l1 : List α} : ∀ (_ : l1.Nodup) {l2 : List α} (_ : ∀ x ∈ l1, x ∈ l2), l1.length ≤ l2.length := by
  induction l1 with
  | nil => intro _ _ _; exact Nat.zero_le _
  | cons a l ih =>
    intro nd l2 h
    rw [List.nodup_cons] at nd
    have h1 := ih nd.2 (l2 := l2.erase a) fun x hx => (List.mem_erase_of_ne (fun (e : x = a) => nd.1 (by rw [← e]; exact hx))).mpr (h x (List.mem_cons_of_mem _ hx))
    have h2 : a ∈ l2 := h a List.mem_cons_self
    have h3 := List.length_erase_of_mem h2
    have h4 := List.length_pos_of_mem h2
    rw [List.length_cons]
    omega
/-- what stands at a key -/
noncomputable def atD (xs : List DEn) (d : PyData) : Option Value := (atKey xs d).map (·.2)
def rInX (X : Cx) (neg : Bool) : R2 := fun x y H Q => ∃ p b xs d, y = .ref p ∧ x = .ref b ∧ H p = some (DxO X.prog X.w p xs) ∧ (∀ e ∈ xs, KyD X.K H e.2.1 e.1) ∧ KyD X.K H b d ∧ Q (.bl (if neg then !(atKey xs d).isSome else (atKey xs d).isSome)) H
theorem op_inX (hu : X.A.units + 20 < cLine) : OpR X (compareOp .In) (rInX X false) := by
  intro pins s σ H x y v u Q I rx ry h
  obtain ⟨p, b, xs, d, rfl, rfl, hp, hk, hb, q⟩ := h
  cases rx
  cases ry
  obtain ⟨h1, h2, h3⟩ := dx_H I hp hk
  exact wpAny_in_heap (knd := dkind X.prog X.w) (k := d) (show X.A.units + 1 + 10 < cLine by omega) ⟨hb.2.2, dp_at I _ _ _ hb.2.1 hb.1 rfl⟩ h2 h3 ⟨.bl _, H, I.tok _, rfl, q⟩
theorem op_ninX (hu : X.A.units + 20 < cLine) : OpR X (compareOp .NotIn) (rInX X true) := by
  intro pins s σ H x y v u Q I rx ry h
  obtain ⟨p, b, xs, d, rfl, rfl, hp, hk, hb, q⟩ := h
  cases rx
  cases ry
  obtain ⟨h1, h2, h3⟩ := dx_H I hp hk
  exact wpAny_notIn_heap (knd := dkind X.prog X.w) (k := d) (show X.A.units + 1 + 10 < cLine by omega) ⟨hb.2.2, dp_at I _ _ _ hb.2.1 hb.1 rfl⟩ h2 h3 ⟨.bl _, H, I.tok _, rfl, q⟩
def rIxX (X : Cx) : R2 := fun x y H Q => ∃ p b xs d c u v, x = .ref p ∧ y = .ref b ∧ H p = some (DxO X.prog X.w p xs) ∧ (∀ e ∈ xs, KyD X.K H e.2.1 e.1) ∧ KyD X.K H b d ∧ atKey xs d = some (c, u) ∧ RelV v u ∧ Q v H
theorem ix_X (hu : X.A.units + 20 < cLine) : IxR X (rIxX X) := by
  intro value slice pins s σ H x y v u Q I rx ry h hs
  obtain ⟨p, b, xs, d, c, u', v', rfl, rfl, hp, hk, hb, ha, rv, q⟩ := h
  cases rx
  cases ry
  obtain ⟨h1, h2, h3⟩ := dx_H I hp hk
  refine tail_any h3.typeIs slot_dict_getitem.lookup ?_ hs
  exact wpAny_getItem_heap (knd := dkind X.prog X.w) (k := d) (show X.A.units + 1 + 10 < cLine by omega) ⟨hb.2.2, dp_at I _ _ _ hb.2.1 hb.1 rfl⟩ h3 ha ⟨v', H, I.tok _, rv, q⟩
def rPutX (X : Cx) : TSet := fun o i v H Q => ∃ p b xs d, o = .ref p ∧ i = .ref b ∧ H p = some (DxO X.prog X.w p xs) ∧ (∀ e ∈ xs, KyD X.K H e.2.1 e.1) ∧ KyD X.K H b d ∧ (∃ U : List PyData, U.length < sizeLine ∧ ∀ e ∈ xs, e.1 ∈ U) ∧ ∀ u, RelV v u → Q (upd H p (DxO X.prog X.w p (storedH xs d b u)))
theorem put_X (hu : X.A.units + 20 < cLine) : PSet X (rPutX X) := by
  intro pins s σ H o i v ov iv u Q I ro ri rv h
  obtain ⟨p, b, xs, d, rfl, rfl, hp, hk, hb, ⟨U, hU, hin⟩, q⟩ := h
  cases ro
  cases ri
  have hl : xs.length < sizeLine := by
    obtain ⟨_, _, _, _, _, _, _, _, _, nd⟩ := dx_of I.hok hp
    have := (nd_sub nd (l2 := U) fun x hx => by obtain ⟨e, he, q⟩ := List.mem_map.mp hx; rw [← q]; exact hin e he)
    rw [List.length_map] at this
    omega
  obtain ⟨h1, h2, h3⟩ := dx_H I hp hk
  refine wpAny_setItem_heap (knd := dkind X.prog X.w) (k := d) (hsz := h1) (show X.A.units + 1 + 10 < cLine by omega) ⟨hb.2.2, dp_at I _ _ _ hb.2.1 hb.1 rfl⟩ h3 fun h' hm hs => ?_
  obtain ⟨o, es, ep, e1, e2, e3, e4, _, e6⟩ := hm
  have ln : (storedH xs d b u).length ≤ sizeLine := by
    unfold storedH
    split
    · simpa using h1
    · simp; omega
  refine ⟨_, d_write (ob := DxO X.prog X.w p (storedH xs d b u)) I (by rw [hp]; exact True.intro) hs ⟨o, e1⟩ (dx_new ln h2 ⟨o, es, ep, e1, e2, e3, e4, e6⟩), q u rv⟩
end
end Z

namespace Z
open PySem L2 PyProof.Rows

section
variable {X : Cx} {e a b c : Expr} {es : List Expr} {st : Stmt} {rest body : List Stmt} {s s' s1 s2 s3 : S} {r : SD} {rs : List SD} {pos p : Pos} {R : Bool → S → Prop} {k : Bool} {P : Po} {M : S → Prop} {ds : List PyData} {x y : PyData} {i j : Int}
def OLe (P Q : Own) : Prop := ∀ K F H v fp, P.holds K F H v fp → Q.holds K F H v fp
theorem set_self {α : Type} {l : List α} {j : Nat} {a : α} (h : l[j]? = some a) : l.set j a = l := by
  obtain ⟨hj, e⟩ := List.getElem?_eq_some_iff.mp h
  subst e
  exact List.set_getElem_self hj

/-- a dict of answers: each told answer is right -/
def OM (pr : Program) (w : World) (f : PyData → PyData → Prop) : Own where
  holds := fun K F H v fp => ∃ p xs, v = .ref p ∧ fp = [p] ∧ H p = some (DxO pr w p xs) ∧ ∀ e ∈ xs, KyD K F e.2.1 e.1 ∧ ∃ vv dv, RelV vv e.2.2 ∧ Dp K F vv dv ∧ f e.1 dv
  stay := fun ⟨p, xs, e1, e2, e3, e4⟩ e k => ⟨p, xs, e1, e2, k p (by rw [e2]; simp) _ e3, fun z hz => let ⟨⟨a1, a2, a3⟩, vv, dv, a4, a5, a6⟩ := e4 z hz; ⟨⟨dpUp e _ _ a1, a2, a3⟩, vv, dv, a4, dpUp e _ _ a5, a6⟩⟩
/-- .. that knows the key d -/
def OMk (pr : Program) (w : World) (f : PyData → PyData → Prop) (d : PyData) : Own where
  holds := fun K F H v fp => ∃ p xs, v = .ref p ∧ fp = [p] ∧ H p = some (DxO pr w p xs) ∧ (atKey xs d).isSome = true ∧ ∀ e ∈ xs, KyD K F e.2.1 e.1 ∧ ∃ vv dv, RelV vv e.2.2 ∧ Dp K F vv dv ∧ f e.1 dv
  stay := fun ⟨p, xs, e1, e2, e3, e0, e4⟩ e k => ⟨p, xs, e1, e2, k p (by rw [e2]; simp) _ e3, e0, fun z hz => let ⟨⟨a1, a2, a3⟩, vv, dv, a4, a5, a6⟩ := e4 z hz; ⟨⟨dpUp e _ _ a1, a2, a3⟩, vv, dv, a4, dpUp e _ _ a5, a6⟩⟩
theorem OMk.le {pr : Program} {w : World} {f : PyData → PyData → Prop} {d : PyData} : OLe (OMk pr w f d) (OM pr w f) := fun K F H v fp ⟨p, xs, e1, e2, e3, _, e4⟩ => ⟨p, xs, e1, e2, e3, e4⟩
theorem KyD.up {K : PySem.W.Frag} {F H : Hp} {a : Addr} {d : PyData} (e : Ext F H) (h : KyD K F a d) : KyD K H a d := ⟨dpUp e _ _ h.1, h.2.1, h.2.2⟩
variable {f : PyData → PyData → Prop} {o : Nat}
end
end Z

namespace Z
open PySem PySem.W PySem.SeqAt PyProof.Rows PySem.Calls

section
variable {prog : Program} {w : World} {A : Around} {E : Value → Shared → Prop} {s : Shared}
theorem call_tup_lt {Q : Value → Shared → Prop} {l b : Addr} {items items2 : Array Value} {e r : Nat → Bool} (hl : s.heap.IsTuple l items) (hb : s.heap.IsTuple b items2)
    (he : ∀ j (h1 : j < items.size) (h2 : j < items2.size), EqAt A.in1 s items[j] items2[j] (e j)) (hr : ∀ j (h1 : j < items.size) (h2 : j < items2.size), e j = false → RcLt A.in1 s items[j] items2[j] (r j))
    (h : Q (.bool (firstLt e r (decide (items.size < items2.size)) (List.range (min items.size items2.size)))) s) : wpAny (model prog w) A (call (.builtin "tuple.__lt__") [.ref l, .ref b]) Q E s := by
  obtain ⟨⟨cls, dd, data, sl⟩, ho, hc, n, hd⟩ := id hl
  obtain ⟨⟨cls2, dd2, data2, sl2⟩, ho2, hc2, n2, hd2⟩ := id hb
  simp only at hc hd hc2 hd2
  subst hc hd hc2 hd2
  exact call_meets F.slot_tuple_lt ⟨_, ho, rfl⟩ F.entry_tuple_lt (F.args_tuple_lt_2 _ _) (tuple_ltAt l b items items2 n n2 dd dd2 sl sl2 e r) ⟨ho, ho2, he, hr, h⟩
theorem oneLt_tups {xs ys : List PyData} {a b : Value} {as bs : List Addr} {Q : Bool → Shared → Prop} (ra : Reads s.heap a (.tuple xs) as) (rb : Reads s.heap b (.tuple ys) bs) (hal : alikeAll xs ys = true)
    (hu : A.units + min (PyData.tuple xs).depth (PyData.tuple ys).depth < cLine) (hq : Q (dataLt (.tuple xs) (.tuple ys)) s) : wpAny (model prog w) A (oneLt' true a b) Q E s := by
  cases ra with
  | @tuple l o vs n _ as₁ h1 h2 h3 h4 =>
    cases rb with
    | @tuple l' o' vs' n' _ bs₁ k1 k2 k3 k4 =>
      have n1 : vs.size = xs.length := by simpa using ReadsAll.length _ _ _ h4
      have n2 : vs'.size = ys.length := by simpa using ReadsAll.length _ _ _ k4
      rw [dataLt_tuple, ← firstLt_toks xs ys hal, ← n1, ← n2] at hq
      rw [oneLt'_eq]
      simp only [if_true]
      refine wpAny_bind (wpAny_cRoomFor (room_here hu) ?_)
      refine wpAny_bind (wpAny_callSpecialIfBound?_slot (T := "tuple") ⟨_, h1, h2⟩ F.slot_tuple_lt (call_tup_lt (e := pairEq xs ys) (r := fun j => dataLt (xs.getD j .none) (ys.getD j .none)) ⟨_, h1, h2, _, h3⟩ ⟨_, k1, k2, _, k3⟩ (fun j j1 j2 => ?_) (fun j j1 j2 hj => ?_) ?_))
      · have := eqAt_alikeAll xs ys A.in1 s vs.toList vs'.toList _ _ h4 k4 hal (room_in hu) j (by simpa using j1) (by simpa using j2)
        simpa using this
      · have := rcLt_alikeAll xs ys A.in1 s vs.toList vs'.toList _ _ h4 k4 hal (room_in hu) j (by simpa using j1) (by simpa using j2) hj
        simpa using this
      · exact wpAny_truthy_bool hq
theorem firsts_tups {M : Model} : ∀ {vs : List Value} {ds : List PyData} {Q : List (Option Value) → Shared → Prop}, EachIs (fun v d => ∃ as, Reads s.heap v d as) vs ds → (∀ d ∈ ds, ∃ xs, d = .tuple xs) →
    (∀ fs : List (Option Value), EachIs (fun f d => f.isSome = true ↔ d ≠ .tuple []) fs ds → Q fs s) → wpAny M A (vs.mapM firstOfTuple') Q E s
  | _, _, _, .nil, _, h => by rw [List.mapM_nil]; exact wpAny_pure (h [] .nil)
  | v :: vs, d :: ds, Q, .cons ⟨as, r⟩ t, ht, h => by
    obtain ⟨xs, rfl⟩ := ht d List.mem_cons_self
    cases r with
    | @tuple a o items n _ _ ho hc hd hr =>
      have hn : items.size = xs.length := by simpa using ReadsAll.length _ _ _ hr
      rw [List.mapM_cons]
      refine wpAny_bind ?_
      rw [kas_first_eq]
      refine wpAny_bind (Looks.here (show Looks M s.heap (typeOf (.ref a)) o.cls from (Looks.ld ho).andThen .now) ?_)
      rw [hc, if_neg (by first | decide | simp)]
      refine wpAny_bind (listItems_at ho hd (wpAny_pure ?_))
      refine wpAny_bind (firsts_tups (Q := fun bs s' => wpAny M A (pure (items[0]? :: bs)) Q E s') t (fun d hd => ht d (List.mem_cons_of_mem _ hd)) fun fs hf => wpAny_pure (h _ (.cons ?_ hf)))
      have : (items[0]?).isSome = true ↔ 0 < items.size := by simp
      rw [this, hn]
      cases xs <;> simp
def SrtK (ds : List PyData) : Prop := Sortable ds ∨ ∀ d ∈ ds, ∃ xs, d = .tuple xs
theorem SrtK.sub {ds ds' : List PyData} (h : SrtK ds) (k : ∀ d ∈ ds', d ∈ ds) : SrtK ds' := by
  rcases h with (z | z) | z
  · exact .inl (.inl fun d hd => z d (k d hd))
  · exact .inl (.inr fun d hd => z d (k d hd))
  · exact .inr fun d hd => z d (k d hd)
theorem EachIs.right {α β : Type} {R : α → β → Prop} : ∀ {as : List α} {bs : List β}, EachIs R as bs → ∀ b ∈ bs, ∃ a ∈ as, R a b
  | _, _, .nil, _, h => by cases h
  | _, _, .cons (a := a) r t, b, h => by
    rcases List.mem_cons.mp h with rfl | h
    · exact ⟨a, List.mem_cons_self, r⟩
    · obtain ⟨a', h1, h2⟩ := EachIs.right t b h
      exact ⟨a', List.mem_cons_of_mem _ h1, h2⟩
theorem sortsAt {vs : List Value} {ds : List PyData} (e : EachIs (fun v d => ∃ as, Reads s.heap v d as) vs ds) (hal : AllAlike ds) (hk : SrtK ds) (hu : ∀ d, d ∈ ds → A.units + d.depth < cLine) : SortsAt prog w A s (dataKind s.heap ds) vs := by
  rcases hk with hk | ht
  · exact SortsAt.data e hal hk hu
  by_cases hne : ∀ d ∈ ds, d ≠ .tuple []
  · refine SortsAt.data e hal (.inl fun d hd => ?_) hu
    obtain ⟨xs, rfl⟩ := ht d hd
    cases xs with
    | nil => exact (hne _ hd rfl).elim
    | cons x r => exact ⟨x, r, rfl⟩
  have room : ∀ {d d' : PyData}, d ∈ ds → A.units + min d.depth d'.depth < cLine := fun {d d'} hd => Nat.lt_of_le_of_lt (Nat.add_le_add_left (Nat.min_le_left _ _) _) (hu d hd)
  have keys : ∀ v, v ∈ vs → ∃ a, (dataKind s.heap ds).keyOf v = some a := fun v hv => by
    obtain ⟨d, hd, as, r⟩ := e.left v hv
    exact ⟨_, dataKind_some hal hd r⟩
  have hnone : ∀ {fs : List (Option Value)}, EachIs (fun f d => f.isSome = true ↔ d ≠ .tuple []) fs ds → ¬ (fs.toArray.all fun x => x.isSome) = true := fun {fs} hf ha => by
    refine hne fun d hd => ?_
    obtain ⟨f, h1, h2⟩ := EachIs.right hf d hd
    simp only [List.all_toArray, List.all_eq_true] at ha
    exact h2.mp (ha f h1)
  have lt : ∀ (E : Value → Shared → Prop) (x y : Value) (a b : (dataKind s.heap ds).α) {Q : Bool → Shared → Prop} (f : Bool), (dataKind s.heap ds).keyOf x = some a → (dataKind s.heap ds).keyOf y = some b → Q ((dataKind s.heap ds).blt a b) s → wpAny (model prog w) A (oneLt' f x y) Q E s := by
    intro E x y a b Q f ha hb hq
    obtain ⟨d, as, hd, ra, rfl⟩ := dataKind_inv ha
    obtain ⟨d', as', hd', rb, rfl⟩ := dataKind_inv hb
    have hdd := hal d hd d' hd'
    obtain ⟨xs, rfl⟩ := ht d hd
    obtain ⟨ys, rfl⟩ := ht d' hd'
    cases f with
    | true => exact oneLt_tups ra rb (by simpa [alike] using hdd) (room hd) hq
    | false => exact oneLt_alike (fun h => by cases h) ra rb hdd (by simp) (room hd) hq
  cases ds with
  | nil => exact (hne fun d hd => by cases hd).elim
  | cons d₀ ds₀ =>
    by_cases h0 : d₀ = .tuple []
    · refine ⟨keys, oneType', fun E x y a b Q ha hb hq => ?_, fun h2 E Q hq => ?_⟩
      · rw [keyLt'_oneType]
        exact lt E x y a b true ha hb hq
      · rw [keyKind'_eq, List.mapM_toArray, map_eq_pure_bind]
        refine wpAny_bind (wpAny_bind (firsts_tups e ht fun fs hf => wpAny_pure ?_))
        rw [if_neg (hnone hf)]
        cases hf with
        | @cons f _ fr _ hf0 hfr =>
          have hf0' : f.isSome = false := by
            cases hs : f.isSome with
            | false => rfl
            | true => exact (hf0.mp hs h0).elim
          rw [if_neg (by cases f with
            | none => simp
            | some v => simp at hf0')]
          rw [oneTypeOnly'_eq, List.mapM_toArray, map_eq_pure_bind]
          refine wpAny_bind (wpAny_bind (wpAny_bind (kas_mapM (r := Value.type "tuple") _ (fun v hv Q' hq => ?_) (wpAny_pure ?_))))
          · obtain ⟨d, hd, as, r⟩ := e.left v hv
            obtain ⟨xs, rfl⟩ := ht d hd
            exact Looks.here (looks_reads r) hq
          · cases vs with
            | nil => cases e
            | cons v₁ vr =>
              have hall : ((List.map (fun _ => Value.type "tuple") (v₁ :: vr)).toArray.all fun x => x == Value.type "tuple") = true := by
                simp only [List.all_toArray, List.all_map, List.all_eq_true]
                intro _ _
                exact beq_self_eq_true _
              have h1 : (List.map (fun _ => Value.type "tuple") (v₁ :: vr)).toArray[0]? = some (Value.type "tuple") := by simp
              rw [h1]
              simp only [hall, if_true]
              exact wpAny_pure (wpAny_pure hq)
    · refine ⟨keys, general', fun E x y a b Q ha hb hq => ?_, fun h2 E Q hq => ?_⟩
      · exact lt E x y a b false ha hb hq
      · rw [keyKind'_eq, List.mapM_toArray, map_eq_pure_bind]
        refine wpAny_bind (wpAny_bind (firsts_tups e ht fun fs hf => wpAny_pure ?_))
        rw [if_neg (hnone hf)]
        cases hf with
        | @cons f _ fr _ hf0 hfr =>
          have hf0' : f.isSome = true := hf0.mpr h0
          rw [if_pos (by cases f with
            | none => simp at hf0'
            | some v => simp)]
          exact wpAny_pure hq
end
section
variable {β : Type} {prog : Program} {w : World} {A : Around} {E : Value → Shared → Prop} {s : Shared} {vs : List Value} {bs : List β} {R : Value → β → Prop} {enc : β → PyData}
theorem sortedX {l : Addr} {Q : Value → Shared → Prop} (hl : s.heap.IsList l vs.toArray) (e : EachIs R vs bs) (er : EachIs (fun v b => ∃ as, Reads s.heap v (enc b) as) vs bs) (hal : AllAlike (bs.map enc)) (hk : SrtK (bs.map enc)) (hL : bs.length ≤ sizeLine)
    (hu : ∀ b, b ∈ bs → A.units + 2 + (enc b).depth < cLine) (h : ∀ out, out.length = bs.length → EachIs R out (bs.mergeSort (dataLe false enc)) → Q (.ref (s.heap.objs.size + 1)) { s with heap := sortedAll s.heap vs (List.toArray out) }) :
    wpAny (model prog w) A (call (.builtin "sorted") [.ref l]) Q E s := by
  have er' : EachIs (fun v b => ∃ as, Reads (sortingHeap (copyHeap s.heap vs) (s.heap.objs.size + 1) vs) v (enc b) as) vs bs := er.mono fun _ _ ⟨as, r⟩ => ⟨as, PyProof.Rows.Reads.keeps (fun _ _ => sorting_copy_old) r⟩
  exact sorted_vals hl (sortsAt (s := { s with heap := sortingHeap (copyHeap s.heap vs) (s.heap.objs.size + 1) vs }) (each_map (R := fun v d => ∃ as, Reads (sortingHeap (copyHeap s.heap vs) (s.heap.objs.size + 1) vs) v d as) enc er') hal hk (bound_map hu)) (by rw [e.length]; exact hL)
    (h _ (by rw [sortVals_length false rfl]; exact e.length) (sortVals_data false e er' hal))
end
end Z

namespace Z
open PySem L2 PyProof.Rows

def tyN : PyData → String
  | .none => "NoneType"
  | .bool _ => "bool"
  | .int _ => "int"
  | .str _ => "str"
  | .list _ => "list"
  | .tuple _ => "tuple"
  | .dict _ => "dict"
theorem sqL_ty {K : PySem.W.Frag} {H : Hp} {a : Addr} {xs : List V} (h : SqL K H a xs) : TyX K H (.ref a) (.type "list") := by
  rcases h with (h | ⟨o, h⟩) | ⟨o, its, n, hk, hc, _⟩
  · exact .base (.lst h)
  · exact .base (.frz h)
  · exact .kList hk hc
theorem sqT_ty {K : PySem.W.Frag} {H : Hp} {a : Addr} {xs : List V} (h : SqT K H a xs) : TyX K H (.ref a) (.type "tuple") := by
  rcases h with (h | ⟨o, h⟩) | ⟨o, its, n, hk, hc, _⟩
  · exact .base (.tup h)
  · exact .fTuple h
  · exact .kTuple hk hc
theorem dp_ty {K : PySem.W.Frag} {H : Hp} {v : V} {x : PyData} (h : Dp K H v x) : TyX K H v (.type (tyN x)) := by
  cases h with
  | non => exact .base .non
  | bl b => exact .base (.bl b)
  | int i => exact .base (.int i)
  | str y => exact .base (.str y)
  | lst hs ha => exact sqL_ty hs
  | tup hs ha => exact sqT_ty hs
section
variable {X : Cx} {e a b c : Expr} {es : List Expr} {s s' s1 s2 s3 : S} {r r1 r2 : SD} {rs : List SD} {pos p q : Pos} {k : Bool} {x y z : PyData} {ds : List PyData} {T : Str} {n : String}
def isTup : PyData → Bool | .tuple _ => true | _ => false
def isLst : PyData → Bool | .list _ => true | _ => false
def isBl : PyData → Bool | .bool _ => true | _ => false
def isInt : PyData → Bool | .bool _ => true | .int _ => true | _ => false
def isStr : PyData → Bool | .str _ => true | _ => false
theorem kit_tup (x : PyData) : kitB (tyN x) "tuple" = some (isTup x) := by
  have h : kitB "NoneType" "tuple" = some (isTup .none) ∧ kitB "bool" "tuple" = some (isTup (.bool true)) ∧ kitB "int" "tuple" = some (isTup (.int 0)) ∧ kitB "str" "tuple" = some (isTup (.str (Str.ofString ""))) ∧ kitB "list" "tuple" = some (isTup (.list [])) ∧ kitB "tuple" "tuple" = some (isTup (.tuple [])) ∧ kitB "dict" "tuple" = some (isTup (.dict [])) := by decide +kernel
  obtain ⟨h1, h2, h3, h4, h5, h6, h7⟩ := h
  cases x <;> first | exact h1 | exact h2 | exact h3 | exact h4 | exact h5 | exact h6 | exact h7
theorem kit_lst (x : PyData) : kitB (tyN x) "list" = some (isLst x) := by
  have h : kitB "NoneType" "list" = some (isLst .none) ∧ kitB "bool" "list" = some (isLst (.bool true)) ∧ kitB "int" "list" = some (isLst (.int 0)) ∧ kitB "str" "list" = some (isLst (.str (Str.ofString ""))) ∧ kitB "list" "list" = some (isLst (.list [])) ∧ kitB "tuple" "list" = some (isLst (.tuple [])) ∧ kitB "dict" "list" = some (isLst (.dict [])) := by decide +kernel
  obtain ⟨h1, h2, h3, h4, h5, h6, h7⟩ := h
  cases x <;> first | exact h1 | exact h2 | exact h3 | exact h4 | exact h5 | exact h6 | exact h7
theorem kit_bl (x : PyData) : kitB (tyN x) "bool" = some (isBl x) := by
  have h : kitB "NoneType" "bool" = some (isBl .none) ∧ kitB "bool" "bool" = some (isBl (.bool true)) ∧ kitB "int" "bool" = some (isBl (.int 0)) ∧ kitB "str" "bool" = some (isBl (.str (Str.ofString ""))) ∧ kitB "list" "bool" = some (isBl (.list [])) ∧ kitB "tuple" "bool" = some (isBl (.tuple [])) ∧ kitB "dict" "bool" = some (isBl (.dict [])) := by decide +kernel
  obtain ⟨h1, h2, h3, h4, h5, h6, h7⟩ := h
  cases x <;> first | exact h1 | exact h2 | exact h3 | exact h4 | exact h5 | exact h6 | exact h7
theorem kit_int (x : PyData) : kitB (tyN x) "int" = some (isInt x) := by
  have h : kitB "NoneType" "int" = some (isInt .none) ∧ kitB "bool" "int" = some (isInt (.bool true)) ∧ kitB "int" "int" = some (isInt (.int 0)) ∧ kitB "str" "int" = some (isInt (.str (Str.ofString ""))) ∧ kitB "list" "int" = some (isInt (.list [])) ∧ kitB "tuple" "int" = some (isInt (.tuple [])) ∧ kitB "dict" "int" = some (isInt (.dict [])) := by decide +kernel
  obtain ⟨h1, h2, h3, h4, h5, h6, h7⟩ := h
  cases x <;> first | exact h1 | exact h2 | exact h3 | exact h4 | exact h5 | exact h6 | exact h7
theorem kit_str (x : PyData) : kitB (tyN x) "str" = some (isStr x) := by
  have h : kitB "NoneType" "str" = some (isStr .none) ∧ kitB "bool" "str" = some (isStr (.bool true)) ∧ kitB "int" "str" = some (isStr (.int 0)) ∧ kitB "str" "str" = some (isStr (.str (Str.ofString ""))) ∧ kitB "list" "str" = some (isStr (.list [])) ∧ kitB "tuple" "str" = some (isStr (.tuple [])) ∧ kitB "dict" "str" = some (isStr (.dict [])) := by decide +kernel
  obtain ⟨h1, h2, h3, h4, h5, h6, h7⟩ := h
  cases x <;> first | exact h1 | exact h2 | exact h3 | exact h4 | exact h5 | exact h6 | exact h7

def rInZ (K : PySem.W.Frag) (u : Nat) (neg : Bool) : R2 := fun x y H Q => ∃ d c ds, Dp K H x d ∧ Dp K H y c ∧ (c = .list ds ∨ c = .tuple ds) ∧ PyData.plainAll ds = true ∧ d.plain = true ∧ u + 1 + min (PyData.depthAll ds) d.depth < cLine ∧ Q (.bl (if neg then !(ds.any fun z => PyData.eqv z d) else ds.any fun z => PyData.eqv z d)) H
theorem op_inZ : OpR X (compareOp .In) (rInZ X.K X.A.units false) := by
  intro pins s σ H x y v u Q I rx ry h
  obtain ⟨d, c, ds, hd, hc, e, p1, p2, hu, q⟩ := h
  obtain ⟨as, r1⟩ := Dp.reads I d x v hd rx
  obtain ⟨bs, r2⟩ := Dp.reads I c y u hc ry
  rcases e with e | e
  · subst e
    exact SeqAt.in_list_data r2 r1 p1 p2 hu ⟨.bl _, H, I, rfl, q⟩
  · subst e
    exact SeqAt.in_tuple_data r2 r1 p1 p2 hu ⟨.bl _, H, I, rfl, q⟩
theorem op_ninZ : OpR X (compareOp .NotIn) (rInZ X.K X.A.units true) := by
  intro pins s σ H x y v u Q I rx ry h
  obtain ⟨d, c, ds, hd, hc, e, p1, p2, hu, q⟩ := h
  obtain ⟨as, r1⟩ := Dp.reads I d x v hd rx
  obtain ⟨bs, r2⟩ := Dp.reads I c y u hc ry
  rcases e with e | e
  · subst e
    exact SeqAt.notIn_list_data r2 r1 p1 p2 hu ⟨.bl _, H, I, rfl, q⟩
  · subst e
    exact SeqAt.notIn_tuple_data r2 r1 p1 p2 hu ⟨.bl _, H, I, rfl, q⟩
def rEqZ (K : PySem.W.Frag) (u : Nat) (neg : Bool) : R2 := fun x y H Q => ∃ d c, Dp K H x d ∧ Dp K H y c ∧ d.plain = true ∧ c.plain = true ∧ u + min d.depth c.depth < cLine ∧ Q (.bl (if neg then !PyData.eqv d c else PyData.eqv d c)) H
theorem op_eqZ : OpR X (compareOp .Eq) (rEqZ X.K X.A.units false) := by
  intro pins s σ H x y v u Q I rx ry h
  obtain ⟨d, c, hd, hc, p1, p2, hu, q⟩ := h
  obtain ⟨as, r1⟩ := Dp.reads I d x v hd rx
  obtain ⟨bs, r2⟩ := Dp.reads I c y u hc ry
  exact SeqAt.eq_plain r1 r2 p1 p2 hu ⟨.bl _, H, I, rfl, q⟩
theorem op_neZ : OpR X (compareOp .NotEq) (rEqZ X.K X.A.units true) := by
  intro pins s σ H x y v u Q I rx ry h
  obtain ⟨d, c, hd, hc, p1, p2, hu, q⟩ := h
  obtain ⟨as, r1⟩ := Dp.reads I d x v hd rx
  obtain ⟨bs, r2⟩ := Dp.reads I c y u hc ry
  exact SeqAt.ne_plain r1 r2 p1 p2 hu ⟨.bl _, H, I, rfl, q⟩
def srt (ds : List PyData) : List PyData := ds.mergeSort (PySem.W.dataLe false id)
def rSrt (K : PySem.W.Frag) (u : Nat) : List V → Hp → VK → Prop := fun vs H Q => ∃ a F xs ds, vs = [V.ref a] ∧ SqL K H a xs ∧ Ext F H ∧ DpAll K F xs ds ∧ PySem.W.AllAlike ds ∧ SrtK ds ∧ (∀ d ∈ ds, u + 2 + d.depth < cLine) ∧
  ∀ p ys, H p = none → DpAll K F ys (srt ds) → Q (.ref p) (upd H p (.lst ys))
theorem dps_zip {K : PySem.W.Frag} {F : Hp} : ∀ {xs : List V} {ds : List PyData}, DpAll K F xs ds → ∀ z ∈ xs.zip ds, Dp K F z.1 z.2
  | _, _, .nil, z, h => by cases h
  | _, _, .cons h1 h2, z, h => by
    rcases List.mem_cons.mp h with e | h
    · subst e; exact h1
    · exact dps_zip h2 z h
theorem dps_of_zip {K : PySem.W.Frag} {F : Hp} : ∀ {zs : List (V × PyData)}, (∀ z ∈ zs, Dp K F z.1 z.2) → DpAll K F (zs.map (·.1)) (zs.map (·.2))
  | [], _ => .nil
  | z :: zs, h => .cons (h z List.mem_cons_self) (dps_of_zip fun y hy => h y (List.mem_cons_of_mem _ hy))
theorem vals_zip : ∀ {xs : List V} {us : List Value} {ds : List PyData}, xs.length = ds.length → Vals xs us → PySem.W.EachIs (fun u (z : V × PyData) => RelV z.1 u) us (xs.zip ds)
  | _, _, [], h, .nil => .nil
  | _, _, _ :: _, h, .nil => by cases h
  | _, _, [], h, .cons _ _ => by cases h
  | _, _, d :: ds, h, .cons r t => .cons r (vals_zip (Nat.succ.inj h) t)
theorem zip_vals : ∀ {us : List Value} {zs : List (V × PyData)}, PySem.W.EachIs (fun u (z : V × PyData) => RelV z.1 u) us zs → Vals (zs.map (·.1)) us
  | _, _, .nil => .nil
  | _, _, .cons r t => .cons r (zip_vals t)
theorem snd_zip {α β : Type} : ∀ {xs : List α} {ys : List β}, xs.length = ys.length → (xs.zip ys).map (·.2) = ys
  | [], [], _ => rfl
  | _ :: _, [], h => by cases h
  | [], _ :: _, h => by cases h
  | x :: xs, y :: ys, h => by
    rw [List.zip_cons_cons, List.map_cons, snd_zip (Nat.succ.inj h)]
theorem each_imp {α β : Type} {R R' : α → β → Prop} : ∀ {as : List α} {bs : List β}, PySem.W.EachIs R as bs → (∀ a b, b ∈ bs → R a b → R' a b) → PySem.W.EachIs R' as bs
  | _, _, .nil, _ => .nil
  | _, _, .cons h t, k => .cons (k _ _ List.mem_cons_self h) (each_imp t fun a b hb => k a b (List.mem_cons_of_mem _ hb))
theorem cr_srt : CallR X (.builtin "sorted") (rSrt X.K X.A.units) := by
  intro pins s σ H vs us Q I r h
  obtain ⟨a, F, xs, ds, rfl, hs, hF, hd, al, so, hu, q⟩ := h
  obtain ⟨its, rv, hl, hz⟩ := I.list hs
  rw [Vals.ref1 r]
  have hlen := dpsLen hd
  have e := vals_zip (ds := ds) hlen rv
  have hsnd : (xs.zip ds).map (fun z => z.2) = ds := snd_zip hlen
  have er : PySem.W.EachIs (fun u (z : V × PyData) => ∃ as, Reads s.heap u z.2 as) its (xs.zip ds) := each_imp e fun u z hm hr => Dp.reads I z.2 z.1 u (dpUp hF _ _ (dps_zip hd z hm)) hr
  refine sortedX (R := fun u (z : V × PyData) => RelV z.1 u) (enc := fun z : V × PyData => z.2) hl.isList e er (by rw [hsnd]; exact al) (by rw [hsnd]; exact so) ?_ (fun z hm => ?_) fun out ho eo => ?_
  · have h1 := congrArg List.length hsnd
    rw [List.length_map] at h1
    omega
  · exact hu _ (by rw [← hsnd]; exact List.mem_map.mpr ⟨z, hm, rfl⟩)
  · obtain ⟨ep, he'⟩ := PyProof.Rows.sortedAll_at s.heap its out.toArray
    have hl2 : (((xs.zip ds).mergeSort (PySem.W.dataLe false fun z => z.2)).map (·.1)).length ≤ sizeLine := by
      have h1 := congrArg List.length hsnd
      rw [List.length_map] at h1
      rw [List.length_map, List.length_mergeSort]
      omega
    refine ⟨.ref _, upd H (s.heap.objs.size + 1) (.lst (((xs.zip ds).mergeSort (PySem.W.dataLe false fun z => z.2)).map (·.1))), I.laid (t' := s.toks) (fun _ _ => PyProof.Rows.sortedAll_old) (Nat.le_succ _) ⟨hl2, out, ep, zip_vals eo, he'⟩, rfl, q _ _ (I.hok.fresh (Nat.le_succ _)) ?_⟩
    have h2 : srt ds = ((xs.zip ds).mergeSort (PySem.W.dataLe false fun z => z.2)).map (·.2) := by
      have h3 := List.map_mergeSort (r := PySem.W.dataLe false fun z : V × PyData => z.2) (s := PySem.W.dataLe false id) (f := fun z : V × PyData => z.2) (l := xs.zip ds) (fun _ _ _ _ => rfl)
      rw [hsnd] at h3
      exact h3.symm
    rw [h2]
    exact dps_of_zip fun z hm => dps_zip hd z ((List.mergeSort_perm _ _).mem_iff.mp hm)
theorem srt_perm (ds : List PyData) : (srt ds).Perm ds := List.mergeSort_perm _ _
end
end Z

namespace Z
open PySem L2 PyProof.Rows

section
variable {X : Cx} {e a b c : Expr} {es : List Expr} {st : Stmt} {rest body : List Stmt} {s s' s1 s2 s3 : S} {r : SD} {rs : List SD} {pos p : Pos} {P : Po} {x y : PyData} {i j : Int} {o n : Nat} {O O' : Own}
structure Bx where
  cells : List Int
  x : Int
  y : Int
end
end Z

namespace Z
open PySem L2 PyProof.Rows
def finB (cells : List Int) (x y : Int) : Int × Bx :=
  let first := (y * 48271 + 17) % 2147483629
  let second := (first * 69621 + 5) % 2147483587
  let z := (second * 40692 + 3) % 2147483563
  (first * 4611686014132420609 + second * 2147483647 + z, ⟨cells, x, z⟩)
def cellB (c : Int) : Int := if decide (0 ≤ c) = true then 2 * c else -2 * c - 1
def loadB (b : Bx) : Int × Bx := match b.cells with
  | c :: r => if decide (1000000000000000000 ≤ cellB c) = true then (cellB c, ⟨r, b.x, b.y⟩) else finB r b.x ((b.y * 69621 + cellB c * 48271 + 11) % 2147483647)
  | [] => finB [] b.x b.y
def drawB (b : Bx) (m : Int) : Int × Bx :=
  let b' : Bx := if b.x < m then ⟨(loadB b).2.cells, (loadB b).1, (loadB b).2.y⟩ else b
  (b'.x % m, ⟨b'.cells, b'.x / m, b'.y⟩)
structure BOK (b : Bx) : Prop where
  x : 0 ≤ b.x
  y : 0 ≤ b.y ∧ b.y < 2 ^ 31
  l : b.cells.length ≤ 63
theorem cell_pos (c : Int) : 0 ≤ cellB c := by unfold cellB; split <;> simp_all <;> omega
theorem fin_ok {cells : List Int} {x y : Int} (hx : 0 ≤ x) (hy : 0 ≤ y) (hl : cells.length ≤ 63) : 0 ≤ (finB cells x y).1 ∧ BOK (finB cells x y).2 := by
  unfold finB
  dsimp only
  generalize h1 : (y * 48271 + 17) % 2147483629 = f
  generalize h2 : (f * 69621 + 5) % 2147483587 = g
  generalize h3 : (g * 40692 + 3) % 2147483563 = z
  have z1 : 0 ≤ z := by omega
  have z2 : z < 2 ^ 31 := by omega
  exact ⟨by omega, hx, ⟨z1, z2⟩, hl⟩
theorem load_ok {b : Bx} (h : BOK b) : 0 ≤ (loadB b).1 ∧ BOK (loadB b).2 := by
  obtain ⟨hx, ⟨y1, y2⟩, hl⟩ := h
  unfold loadB
  cases hc : b.cells with
  | nil => exact fin_ok hx y1 (by simp)
  | cons c r =>
    rw [hc] at hl
    simp at hl
    have hp := cell_pos c
    dsimp only
    split
    · exact ⟨hp, hx, ⟨y1, y2⟩, by show r.length ≤ 63; omega⟩
    · exact fin_ok hx (by omega) (by omega)
theorem draw_ok {b : Bx} {m : Int} (h : BOK b) (hm : 0 < m) : (0 ≤ (drawB b m).1 ∧ (drawB b m).1 < m) ∧ BOK (drawB b m).2 := by
  unfold drawB
  dsimp only
  refine ⟨⟨Int.emod_nonneg _ (by omega), Int.emod_lt_of_pos _ hm⟩, ?_⟩
  split
  · obtain ⟨h1, h2⟩ := load_ok h
    exact ⟨Int.ediv_nonneg h1 (by omega), h2.y, h2.l⟩
  · exact ⟨Int.ediv_nonneg h.x (by omega), h.y, h.l⟩
end Z

namespace Z
open PySem L2 PyProof.Rows
section
variable {X : Cx} {e a b c : Expr} {es : List Expr} {s s1 s2 s3 : S} {r : SD} {rs : List SD} {pos p : Pos} {x : Str} {k j n : Nat} {pre : Pre} {rel : Rel} {ds as bs : List PyData} {zd : PyData} {O : Own}
end
end Z

namespace Z
open PySem L2 PyProof.Rows
section
variable {X : Cx} {tg iter elt : Expr} {ifs : List Expr} {s s1 : S} {ds : List PyData} {pos : Pos}
end

mutual
def same : PyData → PyData → Bool
  | .tuple xs, .tuple ys => xs.length == ys.length && sames xs ys
  | .list xs, .list ys => xs.length == ys.length && sames xs ys
  | .bool a, .bool b => a == b
  | .int a, .int b => a == b
  | .str a, .str b => a == b
  | .none, .none => true
  | _, _ => false
def sames : List PyData → List PyData → Bool
  | x :: xs, y :: ys => same x y && sames xs ys
  | _, _ => true
end
end Z

namespace Z
open PySem L2 PyProof.Rows
section
variable {X : Cx} {e a b c tg iter elt : Expr} {es ifs : List Expr} {st : Stmt} {rest body : List Stmt} {s s' s1 s2 s3 : S} {r r1 r2 r3 : SD} {rs : List SD} {pos p : Pos} {P : Po} {ds : List PyData}
theorem vrs3 {ρ : List V} {us : List V} (h : VRs [r1, r2, r3] ρ us) : ∃ u v w, us = [u, v, w] ∧ VR r1 ρ u ∧ VR r2 ρ v ∧ VR r3 ρ w := by
  obtain ⟨h1, h2⟩ := h
  match us, h1 with
  | [u, v, w], _ => exact ⟨u, v, w, rfl, h2 0 _ u rfl rfl, h2 1 _ v rfl rfl, h2 2 _ w rfl rfl⟩
end
end Z

namespace HT
open PySem PySem.Spec PyProof.Rows
section
variable {prog : Program} {w : World} {A : Around} {E : Value → Shared → Prop} {s : Shared}
theorem places_rev (n : Nat) : Builtin.Slice.slicePlaces ((n : Int) - 1) (-1) (-1) = n := by
  unfold Builtin.Slice.slicePlaces
  rw [if_neg (by decide)]
  by_cases h : (n : Int) - 1 > -1
  · rw [if_pos h]
    have : (((n : Int) - 1) - (-1) - 1) / (- -1) + 1 = n := by
      rw [show (- (-1 : Int)) = 1 from rfl, Int.ediv_one]
      omega
    rw [this]
    simp
  · rw [if_neg h]
    simp
    omega
theorem sliceApplied_rev {sl : Addr} {vl vu vs : Value} {n : Nat} {Q : Int × Int × Nat → Shared → Prop} (hs : s.heap.IsSliceOf sl vl vu vs) (pl : IsPart vl none) (pu : IsPart vu none) (ps : IsPart vs (some (-1)))
    (h : Q ((n : Int) - 1, -1, n) s) : wpAny (model prog w) A (Builtin.Slice.sliceApplied (.ref sl) (pure (n : Int))) Q E s := by
  obtain ⟨os, hos, hcs, hds⟩ := id hs
  unfold Builtin.Slice.sliceApplied Builtin.Slice.sliceFields
  refine wpAny_bind (wpAny_bind (wpAny_field hos hds (x := vl) rfl (wpAny_bind (wpAny_field hos hds (x := vu) rfl (wpAny_bind (wpAny_field hos hds (x := vs) rfl (wpAny_pure ?_)))))))
  refine wpAny_bind (slicePart_ ps ?_)
  show wpAny _ _ (if ((-1 : Int) == 0) = true then _ else _) _ _ s
  rw [if_neg (by decide)]
  refine wpAny_bind (slicePart_ pl (wpAny_bind (slicePart_ pu (wpAny_bind (wpAny_pure ?_)))))
  show wpAny _ _ (pure ((n : Int) - 1, (-1 : Int), Builtin.Slice.slicePlaces ((n : Int) - 1) (-1) (-1))) _ _ s
  rw [places_rev]
  exact wpAny_pure h
theorem fm_congr {α β : Type} {f g : α → Option β} : ∀ {l : List α}, (∀ x ∈ l, f x = g x) → l.filterMap f = l.filterMap g
  | [], _ => rfl
  | x :: l, h => by
    rw [List.filterMap_cons, List.filterMap_cons, h x List.mem_cons_self, fm_congr fun y hy => h y (List.mem_cons_of_mem _ hy)]
theorem pick_rev (xs : Array Value) : ((List.range xs.size).filterMap fun (m : Nat) => xs[(((xs.size : Int) - 1) + (m : Int) * (-1)).toNat]?).toArray = xs.toList.reverse.toArray := by
  congr 1
  have h1 : ∀ (l : List Value), ((List.range l.length).filterMap fun (m : Nat) => l[(((l.length : Int) - 1) + (m : Int) * (-1)).toNat]?) = l.reverse := by
    intro l
    have h2 : ∀ m ∈ List.range l.length, l[(((l.length : Int) - 1) + (m : Int) * (-1)).toNat]? = l.reverse[m]? := fun m hm => by
      have hm : m < l.length := by simpa using hm
      rw [List.getElem?_reverse hm]
      congr 1
      omega
    rw [fm_congr h2]
    have h3 : ∀ (r : List Value), (List.range r.length).filterMap (fun m => r[m]?) = r := by
      intro r
      induction r with
      | nil => rfl
      | cons a r ih =>
        rw [List.length_cons, List.range_succ_eq_map, List.filterMap_cons]
        simp only [List.getElem?_cons_zero, List.filterMap_map]
        congr 1
    have := h3 l.reverse
    rw [List.length_reverse] at this
    exact this
  have := h1 xs.toList
  simpa using this
theorem getItem_tuple_rev {t sl : Addr} {items : Array Value} {vl vu vs : Value} {Q : Value → Shared → Prop} (ht : IsTup s.heap t items) (hs : s.heap.IsSliceOf sl vl vu vs) (pl : IsPart vl none) (pu : IsPart vu none) (ps : IsPart vs (some (-1)))
    (h : Q (.ref s.heap.objs.size) { s with heap := s.heap.push { cls := .type "tuple", data := .seq items.toList.reverse.toArray } })
    (hsz : items.size ≤ sizeLine) : wpAny (model prog w) A (getItem (.ref t) (.ref sl)) Q E s := by
  have htake : sizeOk (.seq items.toList.reverse.toArray) := by
    show items.toList.reverse.toArray.size ≤ sizeLine
    rw [List.size_toArray, List.length_reverse, Array.length_toList]
    exact hsz
  obtain ⟨os, hos, hcs, hds⟩ := id hs
  have hTs : s.TypeIs (.ref sl) "slice" := ⟨os, hos, hcs⟩
  unfold getItem
  try with_reducible refine wpAny_holding ?_
  first | refine wpAny_bind (wpAny_pure ?_) | skip
  refine wpAny_bind (wpAny_sequenceKey ht.typeIs (by decide) ?_)
  refine wpAny_bind (wpAny_callSpecial?_slot (name := Str.ofString "__getitem__") ht.typeIs PyProof.Rows.slot_tuple_getitem
    (wpAny_call_entry PyProof.Rows.slot_tuple_getitem ht.typeIs entry_tuple_getitem ?_ (args_tuple_getitem _ _)))
  show wpAny _ _ (Builtin.Tuple.tupleItemsOf (.ref t) >>= _) _ _ s
  refine wpAny_bind (tupleItemsOf_ ht ?_)
  refine wpAny_bind (wpAny_typeOf hTs ?_)
  rw [if_pos (by decide)]
  refine wpAny_bind (sliceApplied_rev hs pl pu ps ?_)
  have hno : ¬ ((((items.size : Int) - 1) == 0 && (-1 : Int) == 1 && items.size == items.size) = true) := by
    intro q
    rw [Bool.and_eq_true, Bool.and_eq_true] at q
    exact absurd q.1.2 (by decide)
  show wpAny _ _ (if (((items.size : Int) - 1) == 0 && (-1 : Int) == 1 && items.size == items.size) = true then _ else _) _ _ s
  rw [if_neg hno, pick_rev]
  first
    | exact wpAny_bind (m := Builtin.Tuple.tupleExact _) (wpAny_newObj_type (wpAny_pure ⟨_, rfl, wpAny_pure h⟩) htake)
    | exact wpAny_bind (m := Builtin.Tuple.tupleExact _) (wpAny_newObj_type (wpAny_bind (wpAny_pure (wpAny_pure ⟨_, rfl, wpAny_pure h⟩))) htake)
    | exact wpAny_bind (wpAny_bind (m := Builtin.Tuple.tupleExact _) (wpAny_newObj_type (wpAny_pure (wpAny_pure ⟨_, rfl, wpAny_pure h⟩)) htake))
    | exact wpAny_bind (wpAny_bind (m := Builtin.Tuple.tupleExact _) (wpAny_newObj_type (wpAny_pure ⟨_, rfl, wpAny_pure h⟩) htake))
end
end HT
namespace Z
open PySem L2 PyProof.Rows
def tRevT (K : PySem.W.Frag) (te : TE) : TE := fun σ H Q => te σ H fun x H1 => ∃ a xs, x = .ref a ∧ SqT K H1 a xs ∧ ∀ p, H1 p = none → Q (.ref p) (upd H1 p (.tup xs.reverse))
section
variable {X : Cx} {a : Expr} {s s1 : S} {r : SD} {ds : List PyData}
theorem pe_revT {e : Expr} {te : TE} {k : Nat} {p1 p2 p3 pos : Pos} (he : PE X e te) : PE X (.Subscript e (.Slice none none (some (.UnaryOp .USub (.Constant (.int 1) k p1) p2)) p3) pos) (tRevT X.K te) := by
  refine ⟨fun pins s σ H Q I h => ?_⟩
  refine Subscript_ (thn (he.run pins s σ H _ I h) fun v s1 ⟨x, H1, I1, r1, q1⟩ => ?_)
  obtain ⟨a, xs, ex, hx, q⟩ := q1
  subst ex
  cases r1
  have hst : PO X (some (.UnaryOp .USub (.Constant (.int 1) k p1) p2)) (tPart (tUn (rU fun i => .int (-i)) (tC (.int 1)))) := po_some (pe_un un_neg pe_int)
  refine wpAny_Slice (thn (po_none.run pins s1 σ H1 (fun o H2 => o = none ∧ H2 = H1) I1 ⟨rfl, rfl⟩) fun vl s2 ⟨l, H2, I2, pl, el, e2⟩ => ?_)
  subst el e2
  refine thn (po_none.run pins s2 σ H2 (fun o H3 => o = none ∧ H3 = H2) I2 ⟨rfl, rfl⟩) fun vu s3 ⟨u, H3, I3, pu, eu, e3⟩ => ?_
  subst eu e3
  refine thn (hst.run pins s3 σ H3 (fun o H4 => o = some (-1) ∧ H4 = H3) I3 ⟨1, rfl, -1, rfl, rfl, rfl⟩) fun vs s4 ⟨o, H4, I4, ps, eo, e4⟩ => ?_
  subst eo e4
  have I5 : Inv X pins σ H4 { s4 with heap := s4.heap.push { cls := .type "slice", data := .fields #[vl, vu, vs] } } := I4.kept (t' := s4.toks) fun b ob q => Heap.get?_push_of_some _ q
  obtain ⟨its, r, ht, hz⟩ := I5.tuple hx
  have hlen := r.length
  show wpAny (model X.prog X.w) X.A (subscriptTail e (.Slice none none (some (.UnaryOp .USub (.Constant (.int 1) k p1) p2)) p3) (.ref a) (.ref s4.heap.objs.size)) (EP X pins σ Q) X.xe { s4 with heap := s4.heap.push { cls := .type "slice", data := .fields #[vl, vu, vs] } }
  refine tail_any (ops := [.ref a, .ref s4.heap.objs.size]) ht.typeIs (PyProof.Rows.slot_tuple_getitem.lookup) ?_ (by with_unfolding_all rfl)
  refine HT.getItem_tuple_rev ht (Heap.IsSliceOf.new _ vl vu vs) pl pu ps ?_ (by rw [List.size_toArray]; omega)
  refine ⟨.ref _, _, I5.laid (t' := s4.toks) (o := .tup xs.reverse) (fun b ob q => Heap.get?_push_of_some _ q) (Nat.le_refl _) ?_, rfl, q _ (I5.hok.fresh (Nat.le_refl _))⟩
  exact ⟨by rw [List.length_reverse]; exact hz, _, r.reverse, IsTup.new _ _⟩
variable {b : Expr} {s2 : S} {i j : Int} {pos : Pos}
end
end Z

namespace Z
open PySem L2 PyProof.Rows
theorem roomS {A : Around} {d : PyData} (hu : A.units + 64 < cLine) (h : d.depth ≤ 60) : A.units + 2 + d.depth < cLine := by omega
section
variable {X : Cx} {x1 x2 e : Expr} {s s1 s' : S} {p pos : Pos} {o k j : Nat} {b b' : Bx} {m d : Int} {kk kk' : Bool}
theorem ZE.i {i i' : Int} (h : ZE X e s (.d (.int i)) s') (q : i = i') : ZE X e s (.d (.int i')) s' := by subst q; exact h
theorem ZE.x {i i' : PyData} (h : ZE X e s (.d i) s') (q : i = i') : ZE X e s (.d i') s' := by subst q; exact h
end
end Z

namespace Z
open PySem L2 PyProof.Rows
section
variable {P : Program} {w : World} {K : PySem.W.Frag} {mg : Str → Option Value} {base : Heap} {x : Str} {st : Stmt} {ps N : List Str} {k : Nat}
theorem fn_dfn {f : Addr} {od an : Option Addr} {sl : Array (Option Value)} {oc kV dc pm cd ct : Value} {h : Heap} (X : K.In h) (G : h.Ns PySem.mainGlobals mg)
    (a : PySem.W.nsIn K PySem.mainGlobals x = some (some (.ref f))) (l : K.lookup f = some ⟨oc, od, .func (PySem.W.fnOf x x (defArgs st) (defBody st) (defScope st) .none kV dc pm an cd ct), sl⟩) (c : PySem.W.codeIn K cd x = true) (q : PySem.W.keepIn K (.ref f) = true)
    (b : ∀ (kV doc pm : Value) (an : Option Addr) (cdv ct : Value) (us : List Value), us.length = ps.length → bindArgs (PySem.W.fnOf x x (defArgs st) (defBody st) (defScope st) .none kV doc pm an cdv ct) ⟨us, []⟩ = pure (ps.zip us)) : Dfn K mg x st ps := by
  have F := fun_mk (st := st) l c q
  exact ⟨f, _, F, PySem.W.mg_of X G a, F.binds b⟩
theorem bl_of {F H : Hp} {v : V} {T : List En} {b : Bool} (h : OK K ((IT.d (.bool b), some v) :: T) H) : v = .bl b := by
  obtain ⟨F, f⟩ := h.fz
  obtain ⟨u, e, d⟩ := f.at List.mem_cons_self
  cases e
  cases d
  rfl
def aSc0 : List Int → List IT := fun ns => [.d (.list (ns.map .int))]
theorem dps_of_ints (K : PySem.W.Frag) (F : Hp) : ∀ ns : List Int, DpAll K F (ns.map V.int) (ns.map .int)
  | [] => .nil
  | n :: ns => .cons (.int n) (dps_of_ints K F ns)
/-- the law's head -/
def spL (K : PySem.W.Frag) : Sp := spZ K (preOf aSc0 (fun ns => ns.length ≤ 63)) (relOf aSc0 (fun ns => ns.length ≤ 63) (fun _ => .d (.bool true)) (fun _ => []))
theorem head_ok {H : Hp} {a : Addr} {ns : List Int} (hl : ns.length ≤ 63) (hS : SqL K H a (ns.map V.int)) : spL K [.ref a] H (fun v _ => v = .bl true) fun _ _ _ => False := by
  refine ⟨aSc0 ns, [], ⟨ns, hl, rfl⟩, rfl, ⟨H, [((.d (.list (ns.map .int)), some (.ref a)), [])], rfl, Ext.refl H, fun x hx => ?_, by simp [fpsOf], fun b hb => by simp [fpsOf] at hb⟩, fun z Os v H' hz ok => ?_⟩
  · have e : x = ((.d (.list (ns.map .int)), some (.ref a)), []) := by simpa using hx
    subst e
    exact ⟨rfl, _, rfl, .lst hS (dps_of_ints K H ns)⟩
  · obtain ⟨e, _⟩ := hz ns hl rfl
    subst e
    exact bl_of (F := H) ok
/-- a law by its Cal -/
theorem law_fn {f : Addr} {fd : FuncData} (F : Fun K x x st f fd) (hm : mg x = some (.ref f)) (S : FnScope N ["script"] (defScope st))
    (body : ∀ (f : Addr) (cdv : Value) (Ar : Around) (outer : List Env) (s : Shared) (H : Hp) (E : XK) (ns : List Int), ns.length ≤ 63 → Room k (Ar.deeper (envOfC x (defScope st) s.heap.objs.size f cdv)) →
      ZSs (cxOf CX0 P w K mg base N x (defScope st) f cdv Ar outer s H E).nox (defBody st) (inSt (aSc0 ns) (N.length - 1)) (poS 0 (.d (.bool true)) [])) : FnOk P w K mg base CX0 (k + 1) f fd ["script"] (spL K) := by
  refine F.ok S (fun vs H Q E h => ?_) (fun cdv A outer s H vs Q E hr h => ?_)
  · obtain ⟨ds, T, ⟨ns, _, e⟩, b, _⟩ := h
    subst e
    rw [← b]
    rfl
  · obtain ⟨ds, T, ⟨ns, hn, e⟩, b, c, d⟩ := h
    subst e
    refine run_body (X := (cxOf CX0 P w K mg base N x (defScope st) f cdv A outer s H E).nox) (N := N) rfl b c d ?_
    have e : vs.length = 1 := by rw [← b]; rfl
    rw [e]
    refine PSs.wk (body f cdv A outer s H E ns hn hr) rfl (fun t ⟨h1, h2⟩ => ?_) (fun r t h => ?_) (fun _ z => z) (fun _ z => z)
    · cases h1
    · cases r with
      | un => exact h
      | d v =>
        obtain ⟨h1, h2⟩ := h
        intro z hz e
        exact ⟨h1.symm, h2⟩
      | r j =>
        obtain ⟨hb, h, h2⟩ := h
        rcases h with ⟨O, hO, h1⟩ | ⟨es, hO, h1⟩ <;> cases h1
end
end Z

namespace Z
open PySem L2 PyProof.Rows

section
variable {P : Program} {w : World}
/-- a key of a set, as it stands -/
def KH (h : Heap) (a : Addr) (d : PyData) : Prop := isAt h d (.ref a) ∧ dep d ≤ 8
theorem KH.one {h : Heap} {a : Addr} {d e : PyData} (x : KH h a d) (y : KH h a e) : d = e := isAt_inj x.1 y.1
theorem KH.but {h h' : Heap} {a c : Addr} {d : PyData} {o : Obj} {es : Array (Int × Value)} {ep : Nat} {t : SetTable} (x : KH h a d) (ho : h.get? c = some o) (hd : o.data = .set es ep t) (sb : Heap.SameBut c h h') : KH h' a d :=
  ⟨isAt_keep (fun b u its n e1 e2 => by
    by_cases eb : b = c
    · subst eb
      rw [ho] at e1
      cases e1
      rw [hd] at e2
      cases e2
    · exact (sb.2 b eb).trans e1) x.1, x.2⟩
abbrev SEn := Addr × PyData
def rowsD (w : World) (L : List SEn) : List (Int × Value) := L.map fun p => (hashD w p.2, Value.ref p.1)
def hsD (w : World) (L : List SEn) : List Int := L.map fun p => hashD w p.2
structure SR (w : World) (h : Heap) (a : Addr) (L : List SEn) (es : Array (Int × Value)) (ep : Nat) (t : SetTable) : Prop where
  ob : ∃ o, h.get? a = some o ∧ o.ExactSet ∧ o.data = .set es ep t
  rows : es.toList = rowsD w L
  tab : TabOk t (hsD w L)
  nd : (L.map (·.2)).Nodup
  keys : ∀ p ∈ L, KH h p.1 p.2
  led : w.params.followText "set-order" = true ∨ t.led = true
  room : L.length * 5 < t.mask * 3
  few : L.length < 64
section
variable {A : Around} {E : Value → Shared → Prop} {s : Shared} {a : Addr} {L : List SEn} {es : Array (Int × Value)} {ep : Nat} {t : SetTable}
theorem SR.at (R : SR w s.heap a L es ep t) {i : Nat} {p : SEn} (h : L[i]? = some p) : es[i]? = some (hashD w p.2, Value.ref p.1) := by
  rw [← Array.getElem?_toList, R.rows]
  simp [rowsD, h]
/-- the c-th look of the search for a hash -/
abbrev lk (t : SetTable) (h : Int) (c : Nat) : SetTable.Probe := nth t.mask (runAt t.mask (SetTable.bits h % (t.mask + 1)) (SetTable.bits h)) c
end
end
end Z

namespace Z
open PySem L2 PyProof.Rows

/-- what the first i give -/
def Gt (ks : List SEn) (i : Nat) (L : List SEn) : Prop := (∀ p ∈ L, p ∈ ks.take i) ∧ (∀ p ∈ ks.take i, p.2 ∈ L.map (·.2)) ∧ L.length ≤ i
theorem tk1 {α : Type} {l : List α} {i : Nat} {x : α} (h : l[i]? = some x) : l.take (i + 1) = l.take i ++ [x] := by rw [List.take_add_one, h]; rfl
theorem Gt.there {ks L : List SEn} {i : Nat} {x : SEn} (g : Gt ks i L) (h : ks[i]? = some x) (m : x.2 ∈ L.map (·.2)) : Gt ks (i + 1) L := by
  obtain ⟨g1, g2, g3⟩ := g
  unfold Gt
  rw [tk1 h]
  refine ⟨fun p hp => List.mem_append_left _ (g1 p hp), fun p hp => ?_, by omega⟩
  rcases List.mem_append.mp hp with z | z
  · exact g2 p z
  · have : p = x := by simpa using z
    rw [this]; exact m
theorem Gt.one {ks L L' : List SEn} {i : Nat} {x : SEn} (g : Gt ks i L) (h : ks[i]? = some x) (pm : L'.Perm (x :: L)) : Gt ks (i + 1) L' := by
  obtain ⟨g1, g2, g3⟩ := g
  unfold Gt
  rw [tk1 h]
  refine ⟨fun p hp => ?_, fun p hp => ?_, by rw [pm.length_eq, List.length_cons]; omega⟩
  · rcases List.mem_cons.mp (pm.mem_iff.mp hp) with e | z
    · exact List.mem_append_right _ (by rw [e]; simp)
    · exact List.mem_append_left _ (g1 p z)
  · refine (pm.map (·.2)).mem_iff.mpr ?_
    rw [List.map_cons]
    rcases List.mem_append.mp hp with z | z
    · exact List.mem_cons_of_mem _ (g2 p z)
    · have : p = x := by simpa using z
      rw [this]; exact List.mem_cons_self
def set0 (w : World) : Obj := { cls := .type "set", dict := none, data := .set #[] 0 (.fresh 0 0 (!w.params.followText "set-order")) }
section
variable {P : Program} {w : World} {A : Around} {E : Value → Shared → Prop} {s : Shared}
theorem SR.kept {h h' : Heap} {a : Addr} {L : List SEn} {es : Array (Int × Value)} {ep : Nat} {t : SetTable} (R : SR w h a L es ep t) (ka : ∀ o, h.get? a = some o → h'.get? a = some o) (kk : ∀ p ∈ L, KH h' p.1 p.2) : SR w h' a L es ep t := by
  obtain ⟨o, e, r⟩ := R.ob
  exact ⟨⟨o, ka o e, r⟩, R.rows, R.tab, R.nd, kk, R.led, R.room, R.few⟩
end
end Z

namespace Z
open PySem L2 PyProof.Rows

mutual
theorem tok_inj : ∀ (x y : PyData) (l m : List (Int ⊕ List Nat)), PySem.W.alike x y = true → PySem.W.keyToks x ++ l = PySem.W.keyToks y ++ m → x = y ∧ l = m
  | .none, .none, l, m, _, h => ⟨rfl, by simpa [PySem.W.keyToks] using h⟩
  | .bool a, .bool b, l, m, _, h => by
    cases a <;> cases b <;> simp [PySem.W.keyToks] at h ⊢ <;> exact h
  | .int a, .int b, l, m, _, h => by
    simp [PySem.W.keyToks] at h
    exact ⟨by rw [h.1], h.2⟩
  | .str a, .str b, l, m, _, h => by
    simp only [PySem.W.keyToks, List.singleton_append, List.cons.injEq, Sum.inr.injEq] at h
    exact ⟨by rw [PySem.W.str_of_cps h.1], h.2⟩
  | .list xs, .list ys, l, m, al, h => by
    have := toks_inj xs ys l m (by simpa [PySem.W.alike] using al) (by simpa [PySem.W.keyToks] using h)
    exact ⟨by rw [this.1], this.2⟩
  | .tuple xs, .tuple ys, l, m, al, h => by
    have := toks_inj xs ys l m (by simpa [PySem.W.alike] using al) (by simpa [PySem.W.keyToks] using h)
    exact ⟨by rw [this.1], this.2⟩
  | .none, .bool _, _, _, al, _ | .none, .int _, _, _, al, _ | .none, .str _, _, _, al, _ | .none, .list _, _, _, al, _ | .none, .tuple _, _, _, al, _ | .none, .dict _, _, _, al, _
  | .bool _, .none, _, _, al, _ | .bool _, .int _, _, _, al, _ | .bool _, .str _, _, _, al, _ | .bool _, .list _, _, _, al, _ | .bool _, .tuple _, _, _, al, _ | .bool _, .dict _, _, _, al, _
  | .int _, .none, _, _, al, _ | .int _, .bool _, _, _, al, _ | .int _, .str _, _, _, al, _ | .int _, .list _, _, _, al, _ | .int _, .tuple _, _, _, al, _ | .int _, .dict _, _, _, al, _
  | .str _, .none, _, _, al, _ | .str _, .bool _, _, _, al, _ | .str _, .int _, _, _, al, _ | .str _, .list _, _, _, al, _ | .str _, .tuple _, _, _, al, _ | .str _, .dict _, _, _, al, _
  | .list _, .none, _, _, al, _ | .list _, .bool _, _, _, al, _ | .list _, .int _, _, _, al, _ | .list _, .str _, _, _, al, _ | .list _, .tuple _, _, _, al, _ | .list _, .dict _, _, _, al, _
  | .tuple _, .none, _, _, al, _ | .tuple _, .bool _, _, _, al, _ | .tuple _, .int _, _, _, al, _ | .tuple _, .str _, _, _, al, _ | .tuple _, .list _, _, _, al, _ | .tuple _, .dict _, _, _, al, _
  | .dict _, .none, _, _, al, _ | .dict _, .bool _, _, _, al, _ | .dict _, .int _, _, _, al, _ | .dict _, .str _, _, _, al, _ | .dict _, .list _, _, _, al, _ | .dict _, .tuple _, _, _, al, _ | .dict _, .dict _, _, _, al, _ => by simp [PySem.W.alike] at al
theorem toks_inj : ∀ (xs ys : List PyData) (l m : List (Int ⊕ List Nat)), PySem.W.alikeAll xs ys = true → PySem.W.keyToksAll xs ++ l = PySem.W.keyToksAll ys ++ m → xs = ys ∧ l = m
  | [], [], l, m, _, h => ⟨rfl, by simpa [PySem.W.keyToksAll] using h⟩
  | [], _ :: _, l, m, _, h => by simp [PySem.W.keyToksAll] at h
  | _ :: _, [], l, m, _, h => by simp [PySem.W.keyToksAll] at h
  | x :: xs, y :: ys, l, m, al, h => by
    obtain ⟨a1, a2⟩ := PySem.W.alike_all_cons al
    simp only [PySem.W.keyToksAll, List.cons_append, List.cons.injEq, true_and, List.append_assoc] at h
    obtain ⟨e1, e2⟩ := tok_inj x y _ _ a1 h
    obtain ⟨e3, e4⟩ := toks_inj xs ys l m a2 e2
    exact ⟨by rw [e1, e3], e4⟩
end
theorem lt_total {x y : PyData} (al : PySem.W.alike x y = true) (h1 : PySem.W.dataLt x y = false) (h2 : PySem.W.dataLt y x = false) : x = y :=
  (tok_inj x y [] [] al (by rw [List.append_nil, List.append_nil]; exact PyProof.Rows.lex_total _ _ h1 h2)).1
theorem le_iff {x y : PyData} : PySem.W.dataLe false id x y = true ↔ PySem.W.dataLt y x = false := by
  show (!PySem.W.dataLt y x) = true ↔ _
  cases PySem.W.dataLt y x <;> simp
theorem srt_pw (l : List PyData) : (srt l).Pairwise fun a b => PySem.W.dataLe false id a b = true := by
  refine List.pairwise_mergeSort (fun a b c h1 h2 => ?_) (fun a b => ?_) l
  · rw [le_iff] at *
    cases q : PySem.W.dataLt c a with
    | false => rfl
    | true =>
      rcases PyProof.Rows.lex_negTrans _ (PySem.W.keyToks b) _ q with z | z
      · exact absurd (show PySem.W.dataLt c b = true from z) (by rw [h2]; decide)
      · exact absurd (show PySem.W.dataLt b a = true from z) (by rw [h1]; decide)
  · rw [Bool.or_eq_true, le_iff, le_iff]
    cases q : PySem.W.dataLt b a with
    | false => exact .inl rfl
    | true =>
      right
      cases q2 : PySem.W.dataLt a b with
      | false => rfl
      | true =>
        have := PyProof.Rows.lex_trans _ _ _ q q2
        rw [PyProof.Rows.lex_irrefl] at this
        cases this
theorem srt_eq {l m : List PyData} (al : PySem.W.AllAlike l) (h : l.Perm m) : srt l = srt m := by
  refine List.Perm.eq_of_pairwise (le := fun a b => PySem.W.dataLe false id a b = true) (fun a b ha hb h1 h2 => ?_) (srt_pw l) (srt_pw m) ((srt_perm l).trans (h.trans (srt_perm m).symm))
  have ha' : a ∈ l := (srt_perm l).mem_iff.mp ha
  have hb' : b ∈ l := h.mem_iff.mpr ((srt_perm m).mem_iff.mp hb)
  exact lt_total (al a ha' b hb') (le_iff.mp h2) (le_iff.mp h1)
/-- each once -/
noncomputable def dd : List PyData → List PyData
  | [] => []
  | d :: ds => if d ∈ ds then dd ds else d :: dd ds
theorem dd_mem {x : PyData} : ∀ {l : List PyData}, x ∈ dd l ↔ x ∈ l
  | [] => Iff.rfl
  | d :: ds => by
    unfold dd
    by_cases h : d ∈ ds
    · rw [if_pos h, dd_mem, List.mem_cons]
      exact ⟨.inr, fun z => z.elim (fun e => e ▸ h) id⟩
    · rw [if_neg h, List.mem_cons, List.mem_cons, dd_mem]
end Z

namespace Z
open PySem L2 PyProof.Rows

section
variable {X : Cx} {pins : List (Addr × Obj)} {σ : L2.St} {H : Hp} {s : Shared}
end
end Z

namespace Z
open PySem L2 PyProof.Rows

structure Tp where
  cells : List Int
  n : Int
  x : Int
  y : Int
section
variable {X : Cx} {e a b c : Expr} {es : List Expr} {st : Stmt} {rest body : List Stmt} {s s' s1 s2 s3 : S} {r : SD} {rs : List SD} {pos p : Pos} {P : Po} {x y : PyData} {i j : Int} {o n : Nat} {O O' : Own}
end
section
variable {X : Cx} {x1 x2 e : Expr} {s s1 s' : S} {p pos : Pos} {o k j : Nat} {b b' : Tp} {m d : Int}
end
end Z

namespace Z
open PySem L2 PyProof.Rows

section
open AutoSeq1 MeetsSeq MeetsSeq2
theorem ext_any (l : Addr) (its : Array Value) (n : Nat) (b : Addr) (its2 : Array Value) (n2 : Nat) (dd : Option Addr) (sl : Array (Option Value)) (h0 : ¬(!its.isEmpty && Builtin.List.listTooLong (its.size + its2.size)) = true) (h1 : its.size ≤ sizeLine) (h2 : its.size + its2.size ≤ sizeLine + 1) :
    PySem.Meets (Builtin.«list.extend» ⟨[.ref l, .ref b], []⟩) (fun _ R s => s.heap.get? l = some { cls := .type "list", dict := none, data := .seq its n, slots := #[] } ∧ s.heap.get? b = some { cls := .type "list", dict := dd, data := .seq its2 n2, slots := sl } ∧
      R (.ok (.ret Value.none)) { s with heap := s.heap.update l (Obj.mapSeq fun x => x ++ its2), toks := s.toks }) :=
  PySem.Meets.of_wp fun prog w A R s h => by
    obtain ⟨hp, g, d, tk, os⟩ := s
    obtain ⟨hl, hb, h⟩ := h
    have f1 := AutoSeq1.idx_int
    have f2 := AutoSeq1.sub_tuple_tuple
    have f3 := AutoSeq1.sub_list_list
    have f4 := AutoSeq1.sub_tuple_list
    have f5 := AutoSeq1.sub_list_tuple
    have hz' : (its ++ its2).size ≤ sizeLine + 1 := by rw [Array.size_append]; exact h2
    wp_walk using (wpAny_updateSeq hl rfl (hz := h1) (_hz' := hz')), wpAny_loadPart' hl, wpAny_loadPart' hb
    exact ⟨_, rfl, h⟩
end
section
variable {X : Cx} {e a b c : Expr} {es : List Expr} {st : Stmt} {rest body : List Stmt} {s s' s1 s2 s3 : S} {r r1 : SD} {rs : List SD} {pos p p2 q : Pos} {P : Po} {x y : PyData} {i j k : Int} {o n : Nat} {ds es' : List PyData}
def rExtQ (K : PySem.W.Frag) : V → List V → Hp → VK → Prop := fun x vs H Q => ∃ l b xs zs, x = V.ref l ∧ vs = [V.ref b] ∧ H l = some (.lst xs) ∧ SqL K H b zs ∧ xs.length + zs.length ≤ sizeLine ∧ Q .non (upd H l (.lst (xs ++ zs)))
theorem mt_extQ : MtM X "list.extend" (rExtQ X.K) := by
  intro pins s σ H x vs v us Q I rx rv h
  obtain ⟨l, b, xs, zs, rfl, rfl, hl, hb, hz, q⟩ := h
  cases rx
  obtain ⟨u, rfl, ru⟩ := rv.one
  cases ru
  obtain ⟨z, its, n, r, h1, e⟩ := I.lstM hl
  obtain ⟨its2, r2, ⟨ob, n2, e2, e3, e4, e5⟩, z2⟩ := I.list hb
  obtain ⟨oc, od, dt, sl⟩ := ob
  simp only at e3 e4 e5
  subst e3 e5
  have h2 := r2.length
  have hsz : its.toArray.size + its2.toArray.size ≤ sizeLine := by rw [List.size_toArray, List.size_toArray]; omega
  refine call_meets F.slot_list_extend ⟨_, e, rfl⟩ F.entry_list_extend (F.args_list_extend_2 _ _)
    (ext_any l its.toArray n b its2.toArray n2 od sl (by rw [notLongL hsz, Bool.and_false]; exact Bool.false_ne_true) (by rw [List.size_toArray]; omega) (by omega)) ⟨e, e2, ?_⟩
  refine ⟨.non, _, I.lset (its' := its ++ its2) hl e (by simp) (r.append r2) ?_, rfl, q⟩
  rw [List.length_append]
  omega
end
end Z

namespace Z
open PySem L2 PyProof.Rows
section
variable {X : Cx} {tg iter elt tg1 iter1 : Expr} {ifs ifs1 : List Expr} {s s1 : S} {ds : List PyData} {pos : Pos}
/-- two fors, turns that leave the objects -/
theorem lc2_run {scope : Scope} {own : List (Str × Nat)} {vs vs1 : List Nat} (hvs : own.map (·.2) = vs) (hsub : ∀ i ∈ vs1, i ∈ vs) (es : PyData → List PyData) (f : PyData → PyData → PyData) (p : PyData → Bool) (q : PyData → PyData → Bool)
    (turn : ∀ x, x ∈ ds → ∃ t', (∀ z, ZG (bl X scope z) tg vs x ⟨wipeE s1.e vs, s1.R⟩ t') ∧ t'.R = s1.R ∧ (∀ z, ZTs (bl X scope z) ifs t' (Is (p x) t')) ∧ (p x = true → (∀ z, ZI (bl X scope z) tg1 iter1 t' (es x) t') ∧
      ∀ y, y ∈ es x → ∃ t2, (∀ z, ZG (bl X scope z) tg1 vs1 y ⟨wipeE t'.e vs1, s1.R⟩ t2) ∧ t2.R = s1.R ∧ (∀ z, ZTs (bl X scope z) ifs1 t2 (Is (q x y) t2)) ∧ (q x y = true → ∀ z, ZE (bl X scope z) elt t2 (.d (f x y)) t2)))
    (hsz : (ds.flatMap es).length < sizeLine) (hi : ZI X tg iter s ds s1) (hN : X.N.Nodup) (hc : X.calm = true) (ok : BlkOk X.N X.env.scope scope own) (hs : ∀ x, foldedSetIterable iter X.env x = pure x) (hs1 : ∀ env x, foldedSetIterable iter1 env x = pure x) :
    ∃ te, (PE X (.ListComp elt [⟨tg, iter, ifs, 0⟩, ⟨tg1, iter1, ifs1, 0⟩] scope pos) te ∧ ∀ (i : Nat) (y : Str) (py spos : Pos), X.N[i]? = some y → X.env.scope.names.lookup y = some .local → swapsWith (.ListComp elt [⟨tg, iter, ifs, 0⟩, ⟨tg1, iter1, ifs1, 0⟩] scope pos) (some (.Name y py)) spos.line X.env = pure true →
        PS X (.Assign [.Name y py] (.ListComp elt [⟨tg, iter, ifs, 0⟩, ⟨tg1, iter1, ifs1, 0⟩] scope pos) spos) (tAsg te (gName i))) ∧ ∀ T σ ρ H Q, Sat X.K s σ ρ T H →
      (∀ ρ' D H', ρ <+: ρ' → Sat X.K s1 σ ρ' ((IT.o (OL ((ds.filter p).flatMap fun x => ((es x).filter (q x)).map (f x))), some (.ref D)) :: T) H' → Q (.ref D) H') → te σ H Q := by
  subst hvs
  have hg : ∀ (sh : Shared) (H : Hp) (C : Addr) (cl : List (Str × Addr)) (fp : List Addr), PG (X.blk sh H scope (compEnvC scope cl C X.env) fp) tg (fun v σ H Q => ∃ x t t', (∀ z, ZG (bl X scope z) tg (own.map (·.2)) x t t') ∧ tG X.K (own.map (·.2)) x t t' v σ H Q) := fun sh H C cl fp =>
    ⟨fun pins sh' σ H' v u Q I r ⟨x, t, t', m, q⟩ => (m (sh, H, C, cl, fp)).run pins sh' σ H' v u Q I r q⟩
  have ht : ∀ (sh : Shared) (H : Hp) (C : Addr) (cl : List (Str × Addr)) (fp : List Addr), PTs (X.blk sh H scope (compEnvC scope cl C X.env) fp) ifs (fun σ H Q => ∃ t R, (∀ z, ZTs (bl X scope z) ifs t R) ∧ tT X.K t R σ H Q) := fun sh H C cl fp =>
    ⟨fun pins sh' σ H' Q I ⟨t, R, m, q⟩ => (m (sh, H, C, cl, fp)).run pins sh' σ H' Q I q⟩
  have hi1 : ∀ (sh : Shared) (H : Hp) (C : Addr) (cl : List (Str × Addr)) (fp : List Addr), PI (X.blk sh H scope (compEnvC scope cl C X.env) fp) tg1 iter1 (fun σ H R => ∃ t ys t', (∀ z, ZI (bl X scope z) tg1 iter1 t ys t') ∧ tI X.K t ys t' σ H R) := fun sh H C cl fp =>
    ⟨fun pins sh' σ H' R I ⟨t, ys, t', m, q⟩ => (m (sh, H, C, cl, fp)).run pins sh' σ H' R I q⟩
  have hg1 : ∀ (sh : Shared) (H : Hp) (C : Addr) (cl : List (Str × Addr)) (fp : List Addr), PG (X.blk sh H scope (compEnvC scope cl C X.env) fp) tg1 (fun v σ H Q => ∃ x t t', (∀ z, ZG (bl X scope z) tg1 vs1 x t t') ∧ tG X.K vs1 x t t' v σ H Q) := fun sh H C cl fp =>
    ⟨fun pins sh' σ H' v u Q I r ⟨x, t, t', m, q⟩ => (m (sh, H, C, cl, fp)).run pins sh' σ H' v u Q I r q⟩
  have ht1 : ∀ (sh : Shared) (H : Hp) (C : Addr) (cl : List (Str × Addr)) (fp : List Addr), PTs (X.blk sh H scope (compEnvC scope cl C X.env) fp) ifs1 (fun σ H Q => ∃ t R, (∀ z, ZTs (bl X scope z) ifs1 t R) ∧ tT X.K t R σ H Q) := fun sh H C cl fp =>
    ⟨fun pins sh' σ H' Q I ⟨t, R, m, q⟩ => (m (sh, H, C, cl, fp)).run pins sh' σ H' Q I q⟩
  have he : ∀ (sh : Shared) (H : Hp) (C : Addr) (cl : List (Str × Addr)) (fp : List Addr), PE (X.blk sh H scope (compEnvC scope cl C X.env) fp) elt (fun σ H Q => ∃ t y t', (∀ z, ZE (bl X scope z) elt t (.d y) t') ∧ tE X.K t (.d y) t' σ H Q) := fun sh H C cl fp =>
    ⟨fun pins sh' σ H' Q I ⟨t, y, t', m, q⟩ => (m (sh, H, C, cl, fp)).run pins sh' σ H' Q I q⟩
  refine ⟨_, ⟨pe_lc2 hc hN hi ok hsub hg ht hi1 hg1 ht1 he hs hs1, fun i y py spos hy hyl hsw => ps_setLc2 hc hN hy hyl hsw hi ok hsub hg ht hi1 hg1 ht1 he hs hs1⟩, fun T σ ρ H Q g fin => ?_⟩
  refine ⟨T, ρ, g, fun J T0 ρ1 H1 p1 g1 w D hD => ?_⟩
  -- what is told by the first i
  obtain ⟨F, hF⟩ : ∃ F : PyData → List PyData, F = fun x => ((es x).filter (q x)).map (f x) := ⟨_, rfl⟩
  obtain ⟨acc, hacc⟩ : ∃ acc : Nat → List PyData, acc = fun i => ((ds.take i).filter p).flatMap F := ⟨_, rfl⟩
  have lenF : ∀ x, (F x).length ≤ (es x).length := fun x => by rw [hF, List.length_map]; exact List.length_filter_le _ _
  have accN : ∀ {i : Nat} {x : PyData}, ds[i]? = some x → acc (i + 1) = acc i ++ (if p x = true then F x else []) := fun {i x} hx => by
    rw [hacc]
    show ((ds.take (i + 1)).filter p).flatMap F = _
    rw [List.take_add_one, hx, Option.toList, List.filter_append, List.flatMap_append]
    congr 1
    by_cases hp : p x = true
    · rw [if_pos hp, List.filter_cons_of_pos hp]; simp
    · rw [if_neg hp, List.filter_cons_of_neg hp]; simp
  have accL : ∀ i, i ≤ ds.length → (acc i).length ≤ ((ds.take i).flatMap es).length := fun i => by
    induction i with
    | zero => intro _; rw [hacc]; simp
    | succ i ih =>
      intro hi
      have hx : ds[i]? = some ds[i] := List.getElem?_eq_getElem hi
      have es1 : ([ds[i]] : List PyData).flatMap es = es ds[i] := by rw [List.flatMap_cons, List.flatMap_nil, List.append_nil]
      rw [accN hx, List.take_add_one, hx, Option.toList, List.flatMap_append, List.length_append, List.length_append, es1]
      have h1 := ih (by omega)
      have h2 := lenF ds[i]
      split
      · omega
      · rw [List.length_nil]; omega
  have gb := g1.blk (own.map (·.2))
  have gD : Sat X.K ⟨wipeE s1.e (own.map (·.2)), s1.R⟩ (wipe σ (own.map (·.2))) ρ1 ((IT.o (OL (acc 0)), some (.ref D)) :: (ES s1.e σ ++ (T0 ++ T))) (upd H1 D (.lst [])) := by
    obtain ⟨F', f'⟩ := gb.ok.fz
    have : acc 0 = [] := by rw [hacc]; simp
    rw [this]
    exact gb.of (f'.lstO (ds := []) (vs := []) .nil hD)
  refine ⟨fun i m H' => m = ds.length - i ∧ i ≤ ds.length ∧ ∃ ρ', ρ1 <+: ρ' ∧ Sat X.K ⟨wipeE s1.e (own.map (·.2)), s1.R⟩ (wipe σ (own.map (·.2))) ρ' ((IT.o (OL (acc i)), some (.ref D)) :: (ES s1.e σ ++ (T0 ++ T))) H', ⟨_, rfl, Nat.zero_le _, ρ1, pre_refl _, gD⟩, ?_⟩
  rintro i m H' ⟨rfl, hi', ρ', p', g'⟩
  have okw : OK X.K (T0 ++ ((IT.o (OL (acc i)), some (.ref D)) :: (ES s1.e σ ++ T) ++ (ES (wipeE s1.e (own.map (·.2))) (wipe σ (own.map (·.2))) ++ RS s1.R ρ'))) H' := by
    refine g'.ok.perm ?_
    show ([(IT.o (OL (acc i)), some (V.ref D))] ++ (ES s1.e σ ++ (T0 ++ T)) ++ (ES (wipeE s1.e (own.map (·.2))) (wipe σ (own.map (·.2))) ++ RS s1.R ρ')).Perm (T0 ++ ([(IT.o (OL (acc i)), some (V.ref D))] ++ (ES s1.e σ ++ T) ++ (ES (wipeE s1.e (own.map (·.2))) (wipe σ (own.map (·.2))) ++ RS s1.R ρ')))
    simp only [List.append_assoc]
    exact ((cas (ES s1.e σ) T0 _).append_left _).trans (cas _ _ _)
  obtain ⟨w1, w2⟩ := w _ H' okw
  by_cases hlt : i < ds.length
  · obtain ⟨go, yl⟩ := w1 i ds[i] (List.getElem?_eq_getElem hlt)
    have hx : ds[i]? = some ds[i] := List.getElem?_eq_getElem hlt
    generalize ds[i] = x at hx yl go
    obtain ⟨t', hG, hR, hT, hI⟩ := turn x (List.mem_of_getElem? hx)
    have an := accN hx
    refine .inr ⟨go, fun H3 => ∃ ρ', ρ1 <+: ρ' ∧ Sat X.K ⟨wipeE s1.e (own.map (·.2)), s1.R⟩ (wipe σ (own.map (·.2))) ρ' ((IT.o (OL (acc (i + 1))), some (.ref D)) :: (ES s1.e σ ++ (T0 ++ T))) H3,
      fun H3 ⟨a1, a2, a3⟩ => ⟨ds.length - (i + 1), by omega, rfl, hlt, a1, a2, a3⟩, fun v H4 y => ?_⟩
    have okv := yl v H4 y
    have g4 : Sat X.K ⟨wipeE s1.e (own.map (·.2)), s1.R⟩ (wipe σ (own.map (·.2))) ρ' ((IT.d x, some v) :: ((IT.o (OL (acc i)), some (.ref D)) :: (ES s1.e σ ++ (T0 ++ T)))) H4 := by
      refine ⟨g'.le, g'.lr, g'.al, okv.perm (List.Perm.cons _ ?_)⟩
      show (T0 ++ ([(IT.o (OL (acc i)), some (V.ref D))] ++ (ES s1.e σ ++ T) ++ (ES (wipeE s1.e (own.map (·.2))) (wipe σ (own.map (·.2))) ++ RS s1.R ρ'))).Perm ([(IT.o (OL (acc i)), some (V.ref D))] ++ (ES s1.e σ ++ (T0 ++ T)) ++ (ES (wipeE s1.e (own.map (·.2))) (wipe σ (own.map (·.2))) ++ RS s1.R ρ'))
      simp only [List.append_assoc]
      exact (cas _ _ _).trans ((cas T0 (ES s1.e σ) _).append_left _)
    refine ⟨x, _, t', hG, _, ρ', ⟨g4.le, g4.lr, g4.al, g4.ok⟩, fun σ2 o g5 => ⟨wipe_off o, ?_⟩⟩
    have back : ∀ {e2 : List SD} {ρ2 : List V} {l2 : List PyData} {H2 : Hp}, ρ' <+: ρ2 → Sat X.K ⟨e2, s1.R⟩ σ2 ρ2 ((IT.o (OL l2), some (.ref D)) :: (ES s1.e σ ++ (T0 ++ T))) H2 →
        Sat X.K ⟨wipeE s1.e (own.map (·.2)), s1.R⟩ (wipe σ (own.map (·.2))) ρ2 ((IT.o (OL l2), some (.ref D)) :: (ES s1.e σ ++ (T0 ++ T))) H2 := fun {e2 ρ2 l2 H2} p2 g2 => by
      have b := g1.unblk (A := [(IT.o (OL l2), some (.ref D))]) (p'.trans p2) g2
      exact (b.blk (own.map (·.2))).tperm List.perm_middle
    refine ⟨t', Is (p x) t', hT, _, ρ', g5, fun b t2 ρ2 H5 hr p2 g6 => ?_⟩
    obtain ⟨eb, et⟩ := hr
    subst et
    obtain ⟨e', R'⟩ := t2
    have hR : R' = s1.R := hR
    subst hR
    cases b with
    | false =>
      refine ⟨ρ2, p'.trans p2, ?_⟩
      rw [an, if_neg (by rw [← eb]; decide), List.append_nil]
      exact back p2 g6
    | true =>
      obtain ⟨hI0, hI1⟩ := hI eb.symm
      rw [if_pos eb.symm] at an
      show ∃ _, _
      refine ⟨⟨e', s1.R⟩, es x, ⟨e', s1.R⟩, hI0, _, ρ2, g6, fun J1 T1 ρ3 H6 p3 g7 wk1 => ?_⟩
      obtain ⟨inn, hinn⟩ : ∃ inn : Nat → List PyData, inn = fun j => (((es x).take j).filter (q x)).map (f x) := ⟨_, rfl⟩
      have innN : ∀ {j : Nat} {y : PyData}, (es x)[j]? = some y → inn (j + 1) = inn j ++ (if q x y = true then [f x y] else []) := fun {j y} hy => by
        rw [hinn]
        show (((es x).take (j + 1)).filter (q x)).map (f x) = _
        rw [List.take_add_one, hy, Option.toList, List.filter_append, List.map_append]
        congr 1
        by_cases hq : q x y = true
        · rw [if_pos hq, List.filter_cons_of_pos hq]; rfl
        · rw [if_neg hq, List.filter_cons_of_neg hq]; rfl
      have innL : ∀ j, (inn j).length ≤ j := fun j => by
        rw [hinn, List.length_map]
        refine Nat.le_trans (List.length_filter_le _ _) ?_
        rw [List.length_take]
        omega
      have room : ∀ j, j < (es x).length → (acc i ++ inn j).length < sizeLine := fun j hj => by
        have h1 := accL i (by omega)
        have h2 := innL j
        have h3 : ((ds.take (i + 1)).flatMap es).length ≤ (ds.flatMap es).length := by
          conv => rhs; rw [← List.take_append_drop (i + 1) ds]
          rw [List.flatMap_append, List.length_append]
          omega
        have es1 : ([x] : List PyData).flatMap es = es x := by rw [List.flatMap_cons, List.flatMap_nil, List.append_nil]
        rw [List.take_add_one, hx, Option.toList, List.flatMap_append, List.length_append, es1] at h3
        rw [List.length_append]
        omega
      -- the frame of the inner round
      have g7' : Sat X.K ⟨e', s1.R⟩ σ2 ρ3 (T1 ++ ((IT.o (OL (acc i)), some (.ref D)) :: (ES s1.e σ ++ (T0 ++ T)))) H6 := g7
      have g7b := g7'.blk vs1
      have g70 : Sat X.K ⟨wipeE e' vs1, s1.R⟩ (wipe σ2 vs1) ρ3 ((IT.o (OL (acc i ++ inn 0)), some (.ref D)) :: (ES e' σ2 ++ (T1 ++ (ES s1.e σ ++ (T0 ++ T))))) H6 := by
        have e0 : acc i ++ inn 0 = acc i := by rw [hinn]; simp
        rw [e0]
        refine g7b.tperm ?_
        show (ES e' σ2 ++ (T1 ++ ([(IT.o (OL (acc i)), some (V.ref D))] ++ (ES s1.e σ ++ (T0 ++ T))))).Perm ([(IT.o (OL (acc i)), some (V.ref D))] ++ (ES e' σ2 ++ (T1 ++ (ES s1.e σ ++ (T0 ++ T)))))
        exact ((cas _ _ _).append_left _).trans (cas _ _ _)
      refine ⟨fun j k H' => k = (es x).length - j ∧ j ≤ (es x).length ∧ ∃ ρ', ρ3 <+: ρ' ∧ Sat X.K ⟨wipeE e' vs1, s1.R⟩ (wipe σ2 vs1) ρ' ((IT.o (OL (acc i ++ inn j)), some (.ref D)) :: (ES e' σ2 ++ (T1 ++ (ES s1.e σ ++ (T0 ++ T))))) H', ⟨_, rfl, Nat.zero_le _, ρ3, pre_refl _, g70⟩, ?_⟩
      rintro j k H7 ⟨rfl, hj, ρ4, p4, g8⟩
      have ok8 : OK X.K (T1 ++ ((IT.o (OL (acc i ++ inn j)), some (.ref D)) :: (ES e' σ2 ++ (ES s1.e σ ++ (T0 ++ T))) ++ (ES (wipeE e' vs1) (wipe σ2 vs1) ++ RS s1.R ρ4))) H7 := by
        refine g8.ok.perm ?_
        show ([(IT.o (OL (acc i ++ inn j)), some (V.ref D))] ++ (ES e' σ2 ++ (T1 ++ (ES s1.e σ ++ (T0 ++ T)))) ++ (ES (wipeE e' vs1) (wipe σ2 vs1) ++ RS s1.R ρ4)).Perm (T1 ++ ([(IT.o (OL (acc i ++ inn j)), some (V.ref D))] ++ (ES e' σ2 ++ (ES s1.e σ ++ (T0 ++ T))) ++ (ES (wipeE e' vs1) (wipe σ2 vs1) ++ RS s1.R ρ4)))
        simp only [List.append_assoc]
        exact ((cas (ES e' σ2) T1 _).append_left _).trans (cas _ _ _)
      obtain ⟨u1, u2⟩ := wk1 _ H7 ok8
      by_cases hjl : j < (es x).length
      · obtain ⟨go1, yl1⟩ := u1 j (es x)[j] (List.getElem?_eq_getElem hjl)
        have hy : (es x)[j]? = some (es x)[j] := List.getElem?_eq_getElem hjl
        generalize (es x)[j] = yy at hy yl1 go1
        obtain ⟨t3, k1, k2, k3, k4⟩ := hI1 yy (List.mem_of_getElem? hy)
        have inN := innN hy
        refine .inr ⟨go1, fun H3 => ∃ ρ', ρ3 <+: ρ' ∧ Sat X.K ⟨wipeE e' vs1, s1.R⟩ (wipe σ2 vs1) ρ' ((IT.o (OL (acc i ++ inn (j + 1))), some (.ref D)) :: (ES e' σ2 ++ (T1 ++ (ES s1.e σ ++ (T0 ++ T))))) H3,
          fun H3 ⟨a1, a2, a3⟩ => ⟨(es x).length - (j + 1), by omega, rfl, hjl, a1, a2, a3⟩, fun v2 H8 y2 => ?_⟩
        have okv2 := yl1 v2 H8 y2
        have g9 : Sat X.K ⟨wipeE e' vs1, s1.R⟩ (wipe σ2 vs1) ρ4 ((IT.d yy, some v2) :: ((IT.o (OL (acc i ++ inn j)), some (.ref D)) :: (ES e' σ2 ++ (T1 ++ (ES s1.e σ ++ (T0 ++ T)))))) H8 := by
          refine ⟨g8.le, g8.lr, g8.al, okv2.perm (List.Perm.cons _ ?_)⟩
          show (T1 ++ ([(IT.o (OL (acc i ++ inn j)), some (V.ref D))] ++ (ES e' σ2 ++ (ES s1.e σ ++ (T0 ++ T))) ++ (ES (wipeE e' vs1) (wipe σ2 vs1) ++ RS s1.R ρ4))).Perm ([(IT.o (OL (acc i ++ inn j)), some (V.ref D))] ++ (ES e' σ2 ++ (T1 ++ (ES s1.e σ ++ (T0 ++ T)))) ++ (ES (wipeE e' vs1) (wipe σ2 vs1) ++ RS s1.R ρ4))
          simp only [List.append_assoc]
          exact (cas _ _ _).trans ((cas T1 (ES e' σ2) _).append_left _)
        refine ⟨yy, _, t3, k1, _, ρ4, g9, fun σ3 o3 ga => ⟨wipe_off o3, ?_⟩⟩
        have back1 : ∀ {e2 : List SD} {ρ5 : List V} {l2 : List PyData} {H2 : Hp}, ρ4 <+: ρ5 → Sat X.K ⟨e2, s1.R⟩ σ3 ρ5 ((IT.o (OL l2), some (.ref D)) :: (ES e' σ2 ++ (T1 ++ (ES s1.e σ ++ (T0 ++ T))))) H2 →
            Sat X.K ⟨wipeE e' vs1, s1.R⟩ (wipe σ2 vs1) ρ5 ((IT.o (OL l2), some (.ref D)) :: (ES e' σ2 ++ (T1 ++ (ES s1.e σ ++ (T0 ++ T))))) H2 := fun {e2 ρ5 l2 H2} p5 g2 => by
          have b := g7'.unblk (A := [(IT.o (OL l2), some (.ref D))]) (p4.trans p5) g2
          exact (b.blk vs1).tperm List.perm_middle
        obtain ⟨e3, R3⟩ := t3
        have k2 : R3 = s1.R := k2
        subst k2
        refine ⟨⟨e3, s1.R⟩, Is (q x yy) ⟨e3, s1.R⟩, k3, _, ρ4, ga, fun b2 t4 ρ5 H9 hr2 p5 gb => ?_⟩
        obtain ⟨eb2, et2⟩ := hr2
        subst et2
        cases b2 with
        | false =>
          refine ⟨ρ5, p4.trans p5, ?_⟩
          rw [inN, if_neg (by rw [← eb2]; decide), List.append_nil]
          exact back1 p5 gb
        | true =>
          rw [if_pos eb2.symm] at inN
          show ∃ _, _
          refine ⟨⟨e3, s1.R⟩, f x yy, ⟨e3, s1.R⟩, k4 eb2.symm, _, ρ5, gb, fun u ρ6 Ha p6 _ gc => ?_⟩
          have g8' : OK X.K ((IT.o (OL (acc i ++ inn j)), some (.ref D)) :: ((IT.d (f x yy), some u) :: (ES e' σ2 ++ (T1 ++ (ES s1.e σ ++ (T0 ++ T)))) ++ (ES e3 σ3 ++ RS s1.R ρ6))) Ha := gc.ok.perm (List.Perm.swap _ _ _)
          obtain ⟨F', f'⟩ := g8'.fz
          obtain ⟨pD, vs', e4, h1, h2, h3⟩ := f'.putL (ds' := acc i ++ inn j)
          cases e4
          obtain ⟨u', e5, hu⟩ := f'.at (x := f x yy) (v := some u) (List.mem_cons_of_mem _ List.mem_cons_self)
          cases e5
          refine ⟨vs', h1, by rw [dpsLen h2]; exact room j hjl, ρ6, (p4.trans p5).trans p6, back1 (e2 := e3) (p5.trans p6) ?_⟩
          have kk := h3 (acc i ++ inn (j + 1)) (vs' ++ [u]) (by rw [inN, ← List.append_assoc]; exact dpsApp h2 (.cons hu .nil))
          exact ⟨gc.le, gc.lr, gc.al, ((kk.perm (List.Perm.swap _ _ _)).tail)⟩
      · have e0 : j = (es x).length := by omega
        subst e0
        refine .inl ⟨u2, ρ4, ((p'.trans p2).trans p3).trans p4, ?_⟩
        have ei : inn (es x).length = F x := by rw [hinn, hF]; show (((es x).take _).filter (q x)).map (f x) = _; rw [List.take_length]
        rw [ei, ← an] at g8
        have b := g7'.unblk (A := [(IT.o (OL (acc (i + 1))), some (.ref D))]) p4 g8
        have b2 : Sat X.K ⟨e', s1.R⟩ σ2 ρ4 ((IT.o (OL (acc (i + 1))), some (.ref D)) :: (ES s1.e σ ++ (T0 ++ T))) H7 := by
          have b3 : Sat X.K ⟨e', s1.R⟩ σ2 ρ4 (T1 ++ ((IT.o (OL (acc (i + 1))), some (.ref D)) :: (ES s1.e σ ++ (T0 ++ T)))) H7 := b.tperm List.perm_middle.symm
          exact b3.tdrops
        exact back ((p2.trans p3).trans p4) b2
  · have e : i = ds.length := by omega
    subst e
    refine .inl ⟨w2, ?_⟩
    have b := g1.unblk (A := [(IT.o (OL (acc ds.length)), some (.ref D))]) p' g'
    have b2 : Sat X.K s1 σ ρ' ((IT.o (OL (acc ds.length)), some (.ref D)) :: (T0 ++ T)) H' := b
    have b3 : Sat X.K s1 σ ρ' (T0 ++ ((IT.o (OL (acc ds.length)), some (.ref D)) :: T)) H' := b2.tperm List.perm_middle.symm
    have ea : acc ds.length = (ds.filter p).flatMap fun x => ((es x).filter (q x)).map (f x) := by rw [hacc, hF]; show ((ds.take _).filter p).flatMap _ = _; rw [List.take_length]
    have b4 := b3.tdrops
    rw [ea] at b4
    exact fin ρ' D H' (p1.trans p') b4

end
end Z

namespace Z
open PySem L2 PyProof.Rows

section
open AutoSeq1 MeetsSeq MeetsSeq2
theorem add_any (l : Addr) (its : Array Value) (n : Nat) (b : Addr) (its2 : Array Value) (n2 : Nat) (dd d1 : Option Addr) (sl s1 : Array (Option Value)) (h2 : its.size + its2.size ≤ sizeLine) :
    PySem.Meets (Builtin.«list.__add__» ⟨[.ref l, .ref b], []⟩) (fun _ R s => s.heap.get? l = some { cls := .type "list", dict := d1, data := .seq its n, slots := s1 } ∧ s.heap.get? b = some { cls := .type "list", dict := dd, data := .seq its2 n2, slots := sl } ∧
      R (.ok (.ret (Value.ref s.heap.objs.size))) { s with heap := s.heap.push { cls := Value.type "list", data := Data.seq (its ++ its2) }, toks := s.toks }) :=
  PySem.Meets.of_wp fun prog w A R s h => by
    obtain ⟨hp, g, d, tk, os⟩ := s
    obtain ⟨hl, hb, h⟩ := h
    have hc0 := h2
    have f1 := AutoSeq1.idx_int
    have f2 := AutoSeq1.sub_tuple_tuple
    have f3 := AutoSeq1.sub_list_list
    have f4 := AutoSeq1.sub_tuple_list
    have f5 := AutoSeq1.sub_list_tuple
    wp_walk using wpAny_loadPart' hl, wpAny_loadPart' hb
    exact ⟨_, rfl, h⟩
theorem tup_mul1 (l : Addr) (items : Array Value) (n : Nat) (dd : Option Addr) (sl : Array (Option Value)) (x : Int) (u : Tok) (c0 : (decide (x < -(2 ^ 63)) || decide (x ≥ 2 ^ 63)) = false) (c1 : (items.isEmpty || x == 1) = true) :
    PySem.Meets (Builtin.«tuple.__mul__» ⟨[.ref l, .int x u], []⟩) (fun _ R s => s.heap.get? l = some { cls := .type "tuple", dict := dd, data := .seq items n, slots := sl } ∧
      R (.ok (.ret (Value.ref l))) { s with heap := s.heap, toks := s.toks }) :=
  PySem.Meets.of_wp fun prog w A R s h => by
    obtain ⟨hp, g, d, tk, os⟩ := s
    obtain ⟨hl, h⟩ := h
    have f1 := AutoSeq1.idx_int
    wp_walk using wpAny_loadPart' hl
    repeat (first
      | (refine wpAny_ite_false (decide_eq_false (by rw [c0]; exact Bool.false_ne_true)) ?_; wp_walk using wpAny_loadPart' hl)
      | (refine wpAny_ite_true (decide_eq_true (by rw [c1])) ?_; wp_walk using wpAny_loadPart' hl))
    exact ⟨_, rfl, h⟩
end
section
variable {X : Cx} {e a b c : Expr} {es : List Expr} {st : Stmt} {rest body : List Stmt} {s s' s1 s2 s3 : S} {r r1 : SD} {rs : List SD} {pos p p2 q : Pos} {P : Po} {x y : PyData} {i j k : Int} {o n : Nat} {ds es' : List PyData}
def rCatQ (K : PySem.W.Frag) : R2 := fun x y H Q => ∃ l b xs zs, x = V.ref l ∧ y = V.ref b ∧ SqL K H l xs ∧ SqL K H b zs ∧ xs.length + zs.length ≤ sizeLine ∧ ∀ p, H p = none → Q (.ref p) (upd H p (.lst (xs ++ zs)))
theorem op_catQ : OpR X (binaryOp .Add) (rCatQ X.K) := by
  intro pins s σ H x y v u Q I rx ry h
  obtain ⟨l, b, xs, zs, rfl, rfl, hH, hB, hz, q⟩ := h
  cases rx
  cases ry
  obtain ⟨its, r, ⟨o1, n, e1, c1, d1, f1⟩, z⟩ := I.list hH
  obtain ⟨its2, r2, ⟨o2, n2, e2, c2, d2, f2⟩, z2⟩ := I.list hB
  have h1 := r.length
  have h2 := r2.length
  obtain ⟨oc, od, dt, sl⟩ := o1
  obtain ⟨oc', od', dt', sl'⟩ := o2
  simp only at c1 c2 f1 f2
  subst c1 c2 f1 f2
  refine concat_meets ⟨_, e1, rfl⟩ ⟨_, e2, rfl⟩ noFill_list_add seq_list_add F.slot_list_add F.entry_list_add (F.args_list_add_2 _ _) (add_any l its.toArray n b its2.toArray n2 od' od sl' sl (by rw [List.size_toArray, List.size_toArray]; omega)) ⟨e1, e2, ?_⟩
  have ea : its.toArray ++ its2.toArray = (its ++ its2).toArray := by simp
  rw [ea]
  exact ⟨.ref _, _, I.lnew (t' := s.toks) (r.append r2) (by rw [List.length_append]; omega), rfl, q _ I.fresh⟩
/-- t * k, k at least 1 -/
def rRepQ (K : PySem.W.Frag) : R2 := fun x y H Q => ∃ l k xs, x = V.ref l ∧ y = V.int k ∧ SqT K H l xs ∧ xs ≠ [] ∧ 1 ≤ k ∧ k ≤ 1000 ∧ xs.length ≤ 1000 ∧ (k = 1 → Q (.ref l) H) ∧ (2 ≤ k → ∀ p, H p = none → Q (.ref p) (upd H p (.tup (List.replicate k.toNat xs).flatten)))
theorem op_repQ : OpR X (binaryOp .Mult) (rRepQ X.K) := by
  intro pins s σ H x y v u Q I rx ry h
  obtain ⟨l, k, xs, rfl, rfl, hT, hne, h1, h2, hz, q1, q2⟩ := h
  by_cases hk : k = 1
  · subst hk
    cases rx
    obtain ⟨t, rfl⟩ := ry
    obtain ⟨its, r, ⟨⟨cls, dd, data, sl⟩, ho, hc, n, hd⟩, hs⟩ := I.tuple hT
    simp only at hc hd
    subst hc hd
    exact wpAny_binaryOp_repeat_ref (T := "tuple") (U := "int") (by decide) ⟨_, ho, rfl⟩ (fun s' => typeIs_int s' 1 t) noFill_tuple_mul F.fills_int_mul F.slot_int_rmul repeat_tuple F.slot_int_index.lookup
      (call_meets F.slot_int_rmul (typeIs_int s 1 t) F.entry_int_rmul (F.args_int_rmul_2 _ _) (int_rmul_tuple 1 t l its.toArray n dd sl)
        ⟨ho, rfl, ⟨_, ho, rfl⟩, call_meets F.slot_tuple_mul ⟨_, ho, rfl⟩ F.entry_tuple_mul (F.args_tuple_mul_2 _ _) (tup_mul1 l its.toArray n dd sl 1 t rfl (by simp)) ⟨ho, ⟨.ref l, H, I.tok s.toks, rfl, q1 rfl⟩⟩⟩)
  · exact op_repT pins s σ H _ _ v u Q I rx ry ⟨l, k, xs, rfl, rfl, hT, hne, by omega, h2, hz, q2 (by omega)⟩
end
end Z

namespace Z
open PySem L2 PyProof.Rows

section
variable {X : Cx} {e a b c : Expr} {es : List Expr} {st : Stmt} {rest body : List Stmt} {s s' s1 s2 s3 : S} {r : SD} {rs : List SD} {pos p : Pos} {P : Po} {ds : List PyData} {x y : PyData} {f f' : PyData → PyData → Prop} {D D' : PyData → Prop} {o : Nat}
/-- a dict of answers: each told answer is right, each key of D is there -/
def OMs (pr : Program) (w : World) (f : PyData → PyData → Prop) (D : PyData → Prop) : Own where
  holds := fun K F H v fp => ∃ p xs, v = .ref p ∧ fp = [p] ∧ H p = some (DxO pr w p xs) ∧ (∀ d, D d → (atKey xs d).isSome = true) ∧ ∀ e ∈ xs, KyD K F e.2.1 e.1 ∧ ∃ vv dv, RelV vv e.2.2 ∧ Dp K F vv dv ∧ f e.1 dv
  stay := fun ⟨p, xs, e1, e2, e3, e0, e4⟩ e k => ⟨p, xs, e1, e2, k p (by rw [e2]; simp) _ e3, e0, fun z hz => let ⟨⟨a1, a2, a3⟩, vv, dv, a4, a5, a6⟩ := e4 z hz; ⟨⟨dpUp e _ _ a1, a2, a3⟩, vv, dv, a4, dpUp e _ _ a5, a6⟩⟩
theorem OMs.le {pr : Program} {w : World} (h1 : ∀ k v, f k v → f' k v) (h2 : ∀ d, D' d → D d) : OLe (OMs pr w f D) (OMs pr w f' D') := fun K F H v fp ⟨p, xs, e1, e2, e3, e0, e4⟩ => ⟨p, xs, e1, e2, e3, fun d hd => e0 d (h2 d hd), fun z hz => let ⟨a1, vv, dv, a4, a5, a6⟩ := e4 z hz; ⟨a1, vv, dv, a4, a5, h1 _ _ a6⟩⟩
end
end Z

namespace Z
open PySem L2 PyProof.Rows

section
variable {X : Cx} {rest : List Stmt} {s s1 : S} {P : Po} {ds : List PyData} {o : Nat}
def ODead : Own where
  holds := fun _ _ _ _ fp => fp = []
  stay := fun h _ _ => h
theorem OK.dead {K : PySem.W.Frag} {l : List En} {H : Hp} {v : V} (h : OK K l H) : OK K ((IT.o ODead, some v) :: l) H := by
  obtain ⟨F, L, e, g⟩ := h
  exact ⟨F, (((IT.o ODead, some v), []) :: L), by rw [List.map_cons, e], g.oCons rfl List.nodup_nil (fun a ha => by cases ha) (fun a ha => by cases ha)⟩
theorem Sat.slots {K : PySem.W.Frag} {σ : L2.St} {ρ : List V} {T : List En} {H : Hp} {v : V} {x : PyData} : ∀ (is : List Nat) {s : S}, is.Nodup → (∀ i ∈ is, s.e[i]? = some (.r o)) → Sat K s σ ρ ((IT.d x, some v) :: T) H → ρ[o]? = some v → Sat K ⟨is.foldl (fun e i => e.set i (.d x)) s.e, s.R⟩ σ ρ ((IT.d x, some v) :: T) H
  | [], s, _, _, g, _ => g
  | i :: is, s, nd, hi, g, hv => by
    have h0 := hi i List.mem_cons_self
    obtain ⟨u, e1, e2⟩ := g.al i o h0
    have eu : u = v := Option.some.inj (e2.symm.trans hv)
    subst eu
    obtain ⟨u', e3, _, ok⟩ := g.ok.dup (x := x) (v := some u) (List.mem_append_left _ List.mem_cons_self)
    cases e3
    have g2 : Sat K s σ ρ ((itOf (SD.d x), some u) :: ((IT.d x, some u) :: T)) H := ⟨g.le, g.lr, g.al, ok⟩
    have g3 := Sat.put (i := i) (r := .d x) (List.getElem?_eq_some_iff.mp h0).1 trivial g2
    rw [set_self e1] at g3
    have nd' := List.nodup_cons.mp nd
    exact Sat.slots is (s := ⟨s.e.set i (.d x), s.R⟩) nd'.2 (fun k hk => by
      show (s.e.set i (.d x))[k]? = _
      rw [List.getElem?_set_ne (fun e => nd'.1 (by rw [e]; exact hk))]
      exact hi k (List.mem_cons_of_mem _ hk)) g3 hv
end
end Z

namespace N
open PySem L2 PyProof.Rows
open Z (Ext dpUp dpsUp dpsLen dpsGet DxO KyD DEn)

/-- a value: a datum, or a reference to an object of the store -/
inductive D where
  | d (x : PyData) | r (j : Nat)
/-- an object of the store: a list; a dict with tuples as keys; one with ints and texts; a dict with tuples as keys that is being gone through; a range; nothing known -/
inductive Cell where
  | lst (ds : List D) | dic (kvs : List (PyData × D)) | dk (kvs : List (Key × D)) | dfz (kvs : List (PyData × D)) | rng (lo hi : Int) | tp (ds : List D) | ins (C : Addr) (fs : List (Str × D)) | gone
abbrev Sto := List Cell
abbrev Lo := List (Option D)
structure Ba where
  P : Program
  w : World
  K : PySem.W.Frag
structure W where
  F : Hp
  ρ : List Addr
structure W.le (w w' : W) : Prop where
  F : Ext w.F w'.F
  ρ : w.ρ <+: w'.ρ
theorem W.le.refl (w : W) : w.le w := ⟨Ext.refl _, List.prefix_rfl⟩
theorem W.le.trans {a b c : W} (h : a.le b) (g : b.le c) : a.le c := ⟨h.F.trans g.F, h.ρ.trans g.ρ⟩
abbrev W.take (w : W) (n : Nat) : W := ⟨w.F, w.ρ.take n⟩
theorem W.take_le (w : W) (n : Nat) : (w.take n).le w := ⟨Ext.refl _, List.take_prefix _ _⟩

def VR (B : Ba) (w : W) (v : V) : D → Prop
  | .d x => Dp B.K w.F v x
  | .r j => ∃ a, w.ρ[j]? = some a ∧ v = .ref a
def VRs (B : Ba) (w : W) : List V → List D → Prop
  | [], [] => True
  | v :: vs, d :: ds => VR B w v d ∧ VRs B w vs ds
  | _, _ => False
def DR (B : Ba) (w : W) : List DEn → List (PyData × D) → Prop
  | [], [] => True
  | e :: xs, kv :: kvs => (e.1 = kv.1 ∧ KyD B.K w.F e.2.1 e.1 ∧ ∃ vv, RelV vv e.2.2 ∧ VR B w vv kv.2) ∧ DR B w xs kvs
  | _, _ => False
def KR (B : Ba) (w : W) : List (Key × V) → List (Key × D) → Prop
  | [], [] => True
  | e :: xs, kv :: kvs => (e.1 = kv.1 ∧ VR B w e.2 kv.2) ∧ KR B w xs kvs
  | _, _ => False
/-- the attributes of an instance -/
def FR (B : Ba) (w : W) : List (Str × V) → List (Str × D) → Prop
  | [], [] => True
  | e :: xs, kv :: kvs => (e.1 = kv.1 ∧ VR B w e.2 kv.2) ∧ FR B w xs kvs
  | _, _ => False
def CR (B : Ba) (w : W) (H : Hp) (a : Addr) : Cell → Prop
  | .lst ds => w.F a = none ∧ ∃ vs, H a = some (.lst vs) ∧ VRs B w vs ds
  | .dic kvs => w.F a = none ∧ ∃ xs, H a = some (DxO B.P B.w a xs) ∧ DR B w xs kvs
  | .dk kvs => w.F a = none ∧ ∃ xs, H a = some (.dK xs) ∧ KR B w xs kvs
  | .dfz kvs => ∃ o xs, w.F a = some (.frz o (DxO B.P B.w a xs)) ∧ DR B w xs kvs
  | .rng lo hi => w.F a = none ∧ H a = some (.rng lo hi)
  | .tp ds => w.F a = none ∧ ∃ vs, H a = some (.tup vs) ∧ VRs B w vs ds
  | .ins C fs => w.F a = none ∧ ∃ dx vs, H a = some (.ins C dx vs) ∧ FR B w vs fs
  | .gone => True
structure Ok (B : Ba) (w : W) (s : Sto) (H : Hp) : Prop where
  ext : Ext w.F H
  lr : w.ρ.length = s.length
  nd : w.ρ.Nodup
  al : ∀ a ∈ w.ρ, ∃ o, H a = some o
  ce : ∀ (j : Nat) (c : Cell) (a : Addr), s[j]? = some c → w.ρ[j]? = some a → CR B w H a c
structure Sl (B : Ba) (w : W) (e : Lo) (σ : L2.St) : Prop where
  le : e.length = σ.length
  sl : ∀ (i : Nat) (d : D), e[i]? = some (some d) → ∃ v, σ[i]? = some (some v) ∧ VR B w v d

section
variable {B : Ba} {w w' : W} {H H' : Hp} {e : Lo} {s : Sto} {σ : L2.St} {v : V} {d : D} {vs : List V} {ds : List D}
theorem pre_get {α : Type} {l m : List α} (p : l <+: m) {i : Nat} {a : α} (h : l[i]? = some a) : m[i]? = some a := by
  obtain ⟨k, rfl⟩ := p
  rw [List.getElem?_append_left (List.getElem?_eq_some_iff.mp h).1]
  exact h
theorem VR.up (l : w.le w') : ∀ {d : D}, VR B w v d → VR B w' v d
  | .d x, h => dpUp l.F x v h
  | .r j, ⟨a, h1, h2⟩ => ⟨a, pre_get l.ρ h1, h2⟩
theorem VRs.up (l : w.le w') : ∀ {vs : List V} {ds : List D}, VRs B w vs ds → VRs B w' vs ds
  | [], [], _ => trivial
  | v :: vs, d :: ds, ⟨h1, h2⟩ => ⟨h1.up l, VRs.up l h2⟩
  | [], _ :: _, h => h.elim
  | _ :: _, [], h => h.elim
theorem DR.up (l : w.le w') : ∀ {xs : List DEn} {kvs : List (PyData × D)}, DR B w xs kvs → DR B w' xs kvs
  | [], [], _ => trivial
  | e :: vs, d :: ds, ⟨⟨h1, ⟨h2, h3⟩, vv, h4, h5⟩, h6⟩ => ⟨⟨h1, ⟨dpUp l.F _ _ h2, h3⟩, vv, h4, h5.up l⟩, DR.up l h6⟩
  | [], _ :: _, h => h.elim
  | _ :: _, [], h => h.elim
theorem KR.up (l : w.le w') : ∀ {xs : List (Key × V)} {kvs : List (Key × D)}, KR B w xs kvs → KR B w' xs kvs
  | [], [], _ => trivial
  | e :: vs, d :: ds, ⟨⟨h1, h2⟩, h6⟩ => ⟨⟨h1, h2.up l⟩, KR.up l h6⟩
  | [], _ :: _, h => h.elim
  | _ :: _, [], h => h.elim
theorem FR.up (l : w.le w') : ∀ {xs : List (Str × V)} {kvs : List (Str × D)}, FR B w xs kvs → FR B w' xs kvs
  | [], [], _ => trivial
  | e :: vs, d :: ds, ⟨⟨h1, h2⟩, h6⟩ => ⟨⟨h1, h2.up l⟩, FR.up l h6⟩
  | [], _ :: _, h => h.elim
  | _ :: _, [], h => h.elim
theorem Sl.up (l : w.le w') (h : Sl B w e σ) : Sl B w' e σ := ⟨h.le, fun i d q => let ⟨v, h1, h2⟩ := h.sl i d q; ⟨v, h1, h2.up l⟩⟩
theorem VRs.len : ∀ {vs : List V} {ds : List D}, VRs B w vs ds → vs.length = ds.length
  | [], [], _ => rfl
  | v :: vs, d :: ds, ⟨h1, h2⟩ => by simp [VRs.len h2]
  | [], _ :: _, h => h.elim
  | _ :: _, [], h => h.elim
theorem VRs.get : ∀ {vs : List V} {ds : List D} {i : Nat} {d : D}, VRs B w vs ds → ds[i]? = some d → ∃ v, vs[i]? = some v ∧ VR B w v d
  | [], [], i, d, _, h => by simp at h
  | v :: vs, d :: ds, 0, d', ⟨h1, h2⟩, h => by simp at h; subst h; exact ⟨v, rfl, h1⟩
  | v :: vs, d :: ds, i + 1, d', ⟨h1, h2⟩, h => by
    obtain ⟨u, a, b⟩ := VRs.get h2 (i := i) (d := d') (by simpa using h)
    exact ⟨u, by simpa using a, b⟩
  | [], _ :: _, _, _, h, _ => h.elim
  | _ :: _, [], _, _, h, _ => h.elim
theorem VRs.app : ∀ {vs us : List V} {ds es : List D}, VRs B w vs ds → VRs B w us es → VRs B w (vs ++ us) (ds ++ es)
  | [], _, [], _, _, h => h
  | v :: vs, _, d :: ds, _, ⟨h1, h2⟩, h => ⟨h1, VRs.app h2 h⟩
  | [], _, _ :: _, _, h, _ => h.elim
  | _ :: _, _, [], _, h, _ => h.elim
theorem VRs.set (hv : VR B w v d) : ∀ {vs : List V} {ds : List D} (i : Nat), VRs B w vs ds → VRs B w (vs.set i v) (ds.set i d)
  | [], [], _, _ => trivial
  | _ :: _, _ :: _, 0, ⟨_, h2⟩ => ⟨hv, h2⟩
  | _ :: _, _ :: _, i + 1, ⟨h1, h2⟩ => ⟨h1, VRs.set hv i h2⟩
  | [], _ :: _, _, h => h.elim
  | _ :: _, [], _, h => h.elim
theorem VRs.take : ∀ {vs : List V} {ds : List D} (n : Nat), VRs B w vs ds → VRs B w (vs.take n) (ds.take n)
  | _, _, 0, _ => trivial
  | [], [], n + 1, _ => trivial
  | _ :: _, _ :: _, n + 1, ⟨h1, h2⟩ => ⟨h1, VRs.take n h2⟩
  | [], _ :: _, _ + 1, h => h.elim
  | _ :: _, [], _ + 1, h => h.elim
theorem VRs.drop : ∀ {vs : List V} {ds : List D} (n : Nat), VRs B w vs ds → VRs B w (vs.drop n) (ds.drop n)
  | _, _, 0, h => h
  | [], [], n + 1, _ => trivial
  | _ :: _, _ :: _, n + 1, ⟨_, h2⟩ => VRs.drop n h2
  | [], _ :: _, _ + 1, h => h.elim
  | _ :: _, [], _ + 1, h => h.elim
theorem VRs.rev : ∀ {vs : List V} {ds : List D}, VRs B w vs ds → VRs B w vs.reverse ds.reverse
  | [], [], _ => trivial
  | v :: vs, d :: ds, ⟨h1, h2⟩ => by
    rw [List.reverse_cons, List.reverse_cons]
    exact VRs.app (VRs.rev h2) ⟨h1, trivial⟩
  | [], _ :: _, h => h.elim
  | _ :: _, [], h => h.elim
theorem VRs.eraseIdx : ∀ {vs : List V} {ds : List D} (n : Nat), VRs B w vs ds → VRs B w (vs.eraseIdx n) (ds.eraseIdx n)
  | [], [], _, _ => trivial
  | _ :: _, _ :: _, 0, ⟨_, h⟩ => h
  | _ :: _, _ :: _, n + 1, ⟨h1, h2⟩ => ⟨h1, VRs.eraseIdx n h2⟩
  | [], _ :: _, _, h => h.elim
  | _ :: _, [], _, h => h.elim
/-- a row of data -/
theorem VRs.data : ∀ {vs : List V} {xs : List PyData}, VRs B w vs (xs.map .d) ↔ DpAll B.K w.F vs xs
  | [], [] => ⟨fun _ => .nil, fun _ => trivial⟩
  | v :: vs, x :: xs => ⟨fun ⟨h1, h2⟩ => .cons h1 (VRs.data.mp h2), fun h => by cases h with | cons h1 h2 => exact ⟨h1, VRs.data.mpr h2⟩⟩
  | [], _ :: _ => ⟨fun h => h.elim, fun h => by cases h⟩
  | _ :: _, [] => ⟨fun h => h.elim, fun h => by cases h⟩
theorem VRs.below : ∀ {vs : List V} {ds : List D}, VRs B w vs ds → ∀ j, D.r j ∈ ds → j < w.ρ.length
  | [], [], _, j, h => by simp at h
  | v :: vs, d :: ds, ⟨h1, h2⟩, j, h => by
    rcases List.mem_cons.mp h with h | h
    · subst h
      obtain ⟨a, h3, _⟩ := h1
      exact (List.getElem?_eq_some_iff.mp h3).1
    · exact VRs.below h2 j h
  | [], _ :: _, h, _, _ => h.elim
  | _ :: _, [], h, _, _ => h.elim

theorem CR.up (l : w.le w') {a : Addr} {c : Cell} (h : CR B w H a c) (hF : w.F a = none → w'.F a = none) (hH : ∀ o, H a = some o → H' a = some o) : CR B w' H' a c := by
  cases c with
  | lst ds => obtain ⟨h1, vs, h2, h3⟩ := h; exact ⟨hF h1, vs, hH _ h2, h3.up l⟩
  | dic ds => obtain ⟨h1, vs, h2, h3⟩ := h; exact ⟨hF h1, vs, hH _ h2, h3.up l⟩
  | dk ds => obtain ⟨h1, vs, h2, h3⟩ := h; exact ⟨hF h1, vs, hH _ h2, h3.up l⟩
  | dfz ds => obtain ⟨o, xs, h2, h3⟩ := h; exact ⟨o, xs, l.F a _ h2, h3.up l⟩
  | rng lo hi => exact ⟨hF h.1, hH _ h.2⟩
  | tp ds => obtain ⟨h1, vs, h2, h3⟩ := h; exact ⟨hF h1, vs, hH _ h2, h3.up l⟩
  | ins C fs => obtain ⟨h1, dx, vs, h2, h3⟩ := h; exact ⟨hF h1, dx, vs, hH _ h2, h3.up l⟩
  | gone => trivial
theorem CR.gone {a : Addr} : CR B w H a .gone := trivial
theorem ext_none (g : Ext w.F H) {p : Addr} (hp : H p = none) : w.F p = none := by
  cases q : w.F p with
  | none => rfl
  | some o => rw [g p o q] at hp; cases hp
theorem Ok.notin (g : Ok B w s H) {p : Addr} (hp : H p = none) : p ∉ w.ρ := fun h => by
  obtain ⟨o, ho⟩ := g.al p h
  rw [hp] at ho
  cases ho
/-- a new thing laid down for good -/
theorem Ok.frz (g : Ok B w s H) {p : Addr} {o : HO} (hp : H p = none) : Ok B ⟨upd w.F p o, w.ρ⟩ s (upd H p o) := by
  have l : w.le ⟨upd w.F p o, w.ρ⟩ := ⟨Ext.up (ext_none g.ext hp), List.prefix_rfl⟩
  refine ⟨fun a u q => ?_, g.lr, g.nd, fun a ha => ?_, fun j c a h1 h2 => ?_⟩
  · have q : upd w.F p o a = some u := q
    by_cases e : a = p
    · subst e; rw [upd_same] at q ⊢; exact q
    · rw [upd_ne e] at q ⊢; exact g.ext a u q
  · obtain ⟨u, hu⟩ := g.al a ha
    exact ⟨u, by rw [upd_ne (ne_of_none hu hp)]; exact hu⟩
  · have ha := List.mem_of_getElem? h2
    have ne : a ≠ p := fun e => g.notin hp (e ▸ ha)
    have k := g.ce j c a h1 h2
    refine k.up l (fun hn => ?_) fun o ho => by rw [upd_ne ne]; exact ho
    show upd w.F p _ a = none
    rw [upd_ne ne]; exact hn
theorem Ok.frz_le (g : Ok B w s H) {p : Addr} {o : HO} (hp : H p = none) : w.le ⟨upd w.F p o, w.ρ⟩ := ⟨Ext.up (ext_none g.ext hp), List.prefix_rfl⟩
/-- a new object of the store -/
theorem Ok.new (g : Ok B w s H) {p : Addr} {o : HO} {c : Cell} (hp : H p = none) (hc : CR B ⟨w.F, w.ρ ++ [p]⟩ (upd H p o) p c) : Ok B ⟨w.F, w.ρ ++ [p]⟩ (s ++ [c]) (upd H p o) := by
  have l : w.le ⟨w.F, w.ρ ++ [p]⟩ := ⟨Ext.refl _, List.prefix_append _ _⟩
  refine ⟨fun a u q => ?_, by simp [g.lr], ?_, fun a ha => ?_, fun j c' a h1 h2 => ?_⟩
  · have := g.ext a u q
    rw [upd_ne (ne_of_none this hp)]
    exact this
  · show (w.ρ ++ [p]).Nodup
    rw [List.nodup_append]
    exact ⟨g.nd, by simp, fun a ha b hb => by
      have : b = p := by simpa using hb
      subst this
      exact fun e => g.notin hp (e ▸ ha)⟩
  · rcases List.mem_append.mp ha with h | h
    · obtain ⟨u, hu⟩ := g.al a h
      exact ⟨u, by rw [upd_ne (ne_of_none hu hp)]; exact hu⟩
    · have : a = p := by simpa using h
      subst this
      exact ⟨o, upd_same⟩
  · by_cases hj : j < s.length
    · rw [List.getElem?_append_left hj] at h1
      have h2' : w.ρ[j]? = some a := by rwa [List.getElem?_append_left (by rw [g.lr]; exact hj)] at h2
      have k := g.ce j c' a h1 h2'
      have ne : a ≠ p := fun e => g.notin hp (e ▸ List.mem_of_getElem? h2')
      exact k.up l (fun hn => hn) fun o ho => by rw [upd_ne ne]; exact ho
    · have hj2 := (List.getElem?_eq_some_iff.mp h1).1
      rw [List.length_append, List.length_singleton] at hj2
      have e : j = s.length := by omega
      subst e
      rw [List.getElem?_append_right (Nat.le_refl _), Nat.sub_self] at h1
      rw [← g.lr, List.getElem?_append_right (Nat.le_refl _), Nat.sub_self] at h2
      cases h1
      cases h2
      exact hc
theorem Ok.new_le {p : Addr} : w.le ⟨w.F, w.ρ ++ [p]⟩ := ⟨Ext.refl _, List.prefix_append _ _⟩
theorem Ok.new_at (g : Ok B w s H) {p : Addr} : VR B ⟨w.F, w.ρ ++ [p]⟩ (.ref p) (.r s.length) := ⟨p, by
  show (w.ρ ++ [p])[s.length]? = some p
  rw [← g.lr, List.getElem?_append_right (Nat.le_refl _), Nat.sub_self]
  rfl, rfl⟩
/-- an object changes -/
theorem Ok.chg (g : Ok B w s H) {j : Nat} {a : Addr} {o : HO} {c : Cell} (hj : w.ρ[j]? = some a) (hF : w.F a = none) (hc : CR B w (upd H a o) a c) : Ok B w (s.set j c) (upd H a o) := by
  refine ⟨fun b u q => ?_, by simp [g.lr], g.nd, fun b hb => ?_, fun k c' b h1 h2 => ?_⟩
  · have ne : b ≠ a := fun e => by subst e; rw [hF] at q; cases q
    rw [upd_ne ne]
    exact g.ext b u q
  · by_cases e : b = a
    · subst e; exact ⟨o, upd_same⟩
    · obtain ⟨u, hu⟩ := g.al b hb
      exact ⟨u, by rw [upd_ne e]; exact hu⟩
  · by_cases e : k = j
    · subst e
      have hk := (List.getElem?_eq_some_iff.mp hj).1
      rw [List.getElem?_set_self (by rw [← g.lr]; exact hk)] at h1
      cases h1
      have : b = a := Option.some.inj (h2.symm.trans hj)
      subst this
      exact hc
    · rw [List.getElem?_set_ne (Ne.symm e)] at h1
      have ne : b ≠ a := fun q => by
        subst q
        exact e ((List.getElem?_inj (List.getElem?_eq_some_iff.mp h2).1 g.nd).mp (h2.trans hj.symm))
      have kk := g.ce k c' b h1 h2
      exact kk.up (W.le.refl w) (fun hn => hn) fun o ho => by rw [upd_ne ne]; exact ho
/-- an object is no longer told of -/
theorem Ok.drop (g : Ok B w s H) (j : Nat) : Ok B w (s.set j .gone) H := by
  refine ⟨g.ext, by simp [g.lr], g.nd, g.al, fun k c b h1 h2 => ?_⟩
  by_cases e : k = j
  · subst e
    have hk := (List.getElem?_eq_some_iff.mp h1).1
    rw [List.length_set] at hk
    rw [List.getElem?_set_self hk] at h1
    cases h1
    exact .gone
  · rw [List.getElem?_set_ne (Ne.symm e)] at h1
    exact g.ce k c b h1 h2
/-- what an object of the store refers to lies below -/
def Cell.below (n : Nat) : Cell → Prop
  | .lst ds => ∀ j, D.r j ∈ ds → j < n
  | .dic kvs => ∀ k j, (k, D.r j) ∈ kvs → j < n
  | .dk kvs => ∀ k j, (k, D.r j) ∈ kvs → j < n
  | .dfz kvs => ∀ k j, (k, D.r j) ∈ kvs → j < n
  | .rng _ _ => True
  | .tp ds => ∀ j, D.r j ∈ ds → j < n
  | .ins _ fs => ∀ k j, (k, D.r j) ∈ fs → j < n
  | .gone => True
theorem VR.cut {n : Nat} : ∀ {d : D}, VR B w v d → (∀ j, d = .r j → j < n) → VR B (w.take n) v d
  | .d x, h, _ => h
  | .r j, ⟨a, h1, h2⟩, hl => ⟨a, by show (w.ρ.take n)[j]? = _; rw [List.getElem?_take_of_lt (hl j rfl)]; exact h1, h2⟩
theorem VRs.cut {n : Nat} : ∀ {vs : List V} {ds : List D}, VRs B w vs ds → (∀ j, D.r j ∈ ds → j < n) → VRs B (w.take n) vs ds
  | [], [], _, _ => trivial
  | v :: vs, d :: ds, ⟨h1, h2⟩, h => ⟨h1.cut fun j e => h j (by rw [e]; simp), VRs.cut h2 fun j hj => h j (List.mem_cons_of_mem _ hj)⟩
  | [], _ :: _, h, _ => h.elim
  | _ :: _, [], h, _ => h.elim
theorem DR.cut {n : Nat} : ∀ {xs : List DEn} {kvs : List (PyData × D)}, DR B w xs kvs → (∀ k j, (k, D.r j) ∈ kvs → j < n) → DR B (w.take n) xs kvs
  | [], [], _, _ => trivial
  | e :: vs, d :: ds, ⟨⟨h1, h2, vv, h4, h5⟩, h6⟩, h => ⟨⟨h1, h2, vv, h4, h5.cut fun j q => h d.1 j (by rw [← q]; simp)⟩, DR.cut h6 fun k j hj => h k j (List.mem_cons_of_mem _ hj)⟩
  | [], _ :: _, h, _ => h.elim
  | _ :: _, [], h, _ => h.elim
theorem KR.cut {n : Nat} : ∀ {xs : List (Key × V)} {kvs : List (Key × D)}, KR B w xs kvs → (∀ k j, (k, D.r j) ∈ kvs → j < n) → KR B (w.take n) xs kvs
  | [], [], _, _ => trivial
  | e :: vs, d :: ds, ⟨⟨h1, h5⟩, h6⟩, h => ⟨⟨h1, h5.cut fun j q => h d.1 j (by rw [← q]; simp)⟩, KR.cut h6 fun k j hj => h k j (List.mem_cons_of_mem _ hj)⟩
  | [], _ :: _, h, _ => h.elim
  | _ :: _, [], h, _ => h.elim
theorem FR.cut {n : Nat} : ∀ {xs : List (Str × V)} {kvs : List (Str × D)}, FR B w xs kvs → (∀ k j, (k, D.r j) ∈ kvs → j < n) → FR B (w.take n) xs kvs
  | [], [], _, _ => trivial
  | e :: vs, d :: ds, ⟨⟨h1, h5⟩, h6⟩, h => ⟨⟨h1, h5.cut fun j q => h d.1 j (by rw [← q]; simp)⟩, FR.cut h6 fun k j hj => h k j (List.mem_cons_of_mem _ hj)⟩
  | [], _ :: _, h, _ => h.elim
  | _ :: _, [], h, _ => h.elim
theorem CR.cut {n : Nat} {a : Addr} {c : Cell} (h : CR B w H a c) (b : c.below n) : CR B (w.take n) H a c := by
  cases c with
  | lst ds => obtain ⟨h1, vs, h2, h3⟩ := h; exact ⟨h1, vs, h2, h3.cut b⟩
  | dic ds => obtain ⟨h1, vs, h2, h3⟩ := h; exact ⟨h1, vs, h2, h3.cut b⟩
  | dk ds => obtain ⟨h1, vs, h2, h3⟩ := h; exact ⟨h1, vs, h2, h3.cut b⟩
  | dfz ds => obtain ⟨o, xs, h2, h3⟩ := h; exact ⟨o, xs, h2, h3.cut b⟩
  | rng lo hi => exact h
  | tp ds => obtain ⟨h1, vs, h2, h3⟩ := h; exact ⟨h1, vs, h2, h3.cut b⟩
  | ins C fs => obtain ⟨h1, dx, vs, h2, h3⟩ := h; exact ⟨h1, dx, vs, h2, h3.cut b⟩
  | gone => trivial
theorem VR.lt {j : Nat} (h : VR B w v (.r j)) : j < w.ρ.length := let ⟨_, h1, _⟩ := h; (List.getElem?_eq_some_iff.mp h1).1
theorem DR.below : ∀ {xs : List DEn} {kvs : List (PyData × D)}, DR B w xs kvs → ∀ k j, (k, D.r j) ∈ kvs → j < w.ρ.length
  | [], [], _, _, _, h => by simp at h
  | e :: vs, d :: ds, ⟨⟨h1, h2, vv, h4, h5⟩, h6⟩, k, j, h => by
    rcases List.mem_cons.mp h with h | h
    · subst h; exact h5.lt
    · exact DR.below h6 k j h
  | [], _ :: _, h, _, _, _ => h.elim
  | _ :: _, [], h, _, _, _ => h.elim
theorem KR.below : ∀ {xs : List (Key × V)} {kvs : List (Key × D)}, KR B w xs kvs → ∀ k j, (k, D.r j) ∈ kvs → j < w.ρ.length
  | [], [], _, _, _, h => by simp at h
  | e :: vs, d :: ds, ⟨⟨h1, h5⟩, h6⟩, k, j, h => by
    rcases List.mem_cons.mp h with h | h
    · subst h; exact h5.lt
    · exact KR.below h6 k j h
  | [], _ :: _, h, _, _, _ => h.elim
  | _ :: _, [], h, _, _, _ => h.elim
theorem FR.below : ∀ {xs : List (Str × V)} {kvs : List (Str × D)}, FR B w xs kvs → ∀ k j, (k, D.r j) ∈ kvs → j < w.ρ.length
  | [], [], _, _, _, h => by simp at h
  | e :: vs, d :: ds, ⟨⟨h1, h5⟩, h6⟩, k, j, h => by
    rcases List.mem_cons.mp h with h | h
    · subst h; exact h5.lt
    · exact FR.below h6 k j h
  | [], _ :: _, h, _, _, _ => h.elim
  | _ :: _, [], h, _, _, _ => h.elim
theorem CR.isBelow {a : Addr} {c : Cell} (h : CR B w H a c) : c.below w.ρ.length := by
  cases c with
  | lst ds => obtain ⟨h1, vs, h2, h3⟩ := h; exact h3.below
  | dic ds => obtain ⟨h1, vs, h2, h3⟩ := h; exact h3.below
  | dk ds => obtain ⟨h1, vs, h2, h3⟩ := h; exact h3.below
  | dfz ds => obtain ⟨o, xs, h2, h3⟩ := h; exact h3.below
  | rng lo hi => trivial
  | tp ds => obtain ⟨h1, vs, h2, h3⟩ := h; exact h3.below
  | ins C fs => obtain ⟨h1, dx, vs, h2, h3⟩ := h; exact h3.below
  | gone => trivial
/-- the store cut back -/
theorem Ok.cut (g : Ok B w s H) {n : Nat} (h : ∀ j c, j < n → s[j]? = some c → c.below n) : Ok B (w.take n) (s.take n) H := by
  refine ⟨g.ext, by simp [g.lr], g.nd.sublist (List.take_sublist _ _), fun a ha => g.al a (List.mem_of_mem_take ha), fun j c a h1 h2 => ?_⟩
  by_cases hj : j < n
  · rw [List.getElem?_take_of_lt hj] at h1
    have h2' : w.ρ[j]? = some a := by
      have : (w.ρ.take n)[j]? = some a := h2
      rwa [List.getElem?_take_of_lt hj] at this
    exact (g.ce j c a h1 h2').cut (h j c hj h1)
  · rw [List.getElem?_eq_none (by rw [List.length_take]; omega)] at h1
    cases h1
/-- a list of data becomes a datum -/
theorem Ok.freeze (g : Ok B w s H) {j : Nat} {a : Addr} {xs : List PyData} (hs : s[j]? = some (.lst (xs.map .d))) (ha : w.ρ[j]? = some a) :
    ∃ w', w.le w' ∧ Ok B w' (s.set j .gone) H ∧ Dp B.K w'.F (.ref a) (.list xs) := by
  obtain ⟨hF, vs, hH, hv⟩ := g.ce j _ a hs ha
  have l : w.le ⟨upd w.F a (.lst vs), w.ρ⟩ := ⟨Ext.up hF, List.prefix_rfl⟩
  refine ⟨_, l, ⟨fun b u q => ?_, by simp [g.lr], g.nd, g.al, fun k c b h1 h2 => ?_⟩, .lst (.of upd_same) (dpsUp l.F _ _ (VRs.data.mp hv))⟩
  · by_cases e : b = a
    · subst e
      have q' : upd w.F b (.lst vs) b = some u := q
      rw [upd_same] at q'
      cases q'
      exact hH
    · have q' : upd w.F a (.lst vs) b = some u := q
      rw [upd_ne e] at q'
      exact g.ext b u q'
  · by_cases e : k = j
    · subst e
      have hk := (List.getElem?_eq_some_iff.mp hs).1
      rw [List.getElem?_set_self hk] at h1
      cases h1
      exact .gone
    · rw [List.getElem?_set_ne (Ne.symm e)] at h1
      have ne : b ≠ a := fun q => by
        subst q
        exact e ((List.getElem?_inj (List.getElem?_eq_some_iff.mp h2).1 g.nd).mp (h2.trans ha.symm))
      have kk := g.ce k c b h1 h2
      refine kk.up l (fun hn => ?_) fun o ho => ho
      show upd w.F a _ b = none
      rw [upd_ne ne]; exact hn
theorem Sl.put (g : Sl B w e σ) (i : Nat) (hv : VR B w v d) : Sl B w (e.set i (some d)) (σ.set i (some v)) := by
  refine ⟨by simp [g.le], fun k d' h => ?_⟩
  by_cases hk : k = i
  · subst hk
    have hl := (List.getElem?_eq_some_iff.mp h).1
    rw [List.length_set] at hl
    rw [List.getElem?_set_self hl] at h
    cases h
    exact ⟨v, by rw [List.getElem?_set_self (by rw [← g.le]; exact hl)], hv⟩
  · rw [List.getElem?_set_ne (Ne.symm hk)] at h
    obtain ⟨u, h1, h2⟩ := g.sl k d' h
    exact ⟨u, by rw [List.getElem?_set_ne (Ne.symm hk)]; exact h1, h2⟩
/-- slots forgotten -/
theorem Sl.wk (g : Sl B w e σ) {e' : Lo} (hl : e'.length = e.length) (h : ∀ (i : Nat) (d : D), e'[i]? = some (some d) → e[i]? = some (some d)) : Sl B w e' σ :=
  ⟨hl.trans g.le, fun i d q => g.sl i d (h i d q)⟩
theorem Sl.cut (g : Sl B w e σ) {n : Nat} (h : ∀ (i j : Nat), e[i]? = some (some (D.r j)) → j < n) : Sl B (w.take n) e σ :=
  ⟨g.le, fun i d q => let ⟨v, h1, h2⟩ := g.sl i d q; ⟨v, h1, h2.cut fun j e => h i j (by rw [← e]; exact q)⟩⟩
end
end N

namespace Z
open PySem L2 PyProof.Rows
theorem tup_mul0 (l : Addr) (items : Array Value) (n : Nat) (dd : Option Addr) (sl : Array (Option Value)) (x : Int) (u : Tok) (c0 : (decide (x < -(2 ^ 63)) || decide (x ≥ 2 ^ 63)) = false) (c1 : (items.isEmpty || x == 1) = false) (c2 : (decide (x ≤ 0) || items.isEmpty) = true) :
    PySem.Meets (Builtin.«tuple.__mul__» ⟨[.ref l, .int x u], []⟩) (fun _ R s => s.heap.get? l = some { cls := .type "tuple", dict := dd, data := .seq items n, slots := sl } ∧
      R (.ok (.ret (Value.ref s.heap.objs.size))) { s with heap := s.heap.push { cls := Value.type "tuple", data := Data.seq #[] }, toks := s.toks }) :=
  PySem.Meets.of_wp fun prog w A R s h => by
    obtain ⟨hp, g, d, tk, os⟩ := s
    obtain ⟨hl, h⟩ := h
    have f1 := AutoSeq1.idx_int
    wp_walk using wpAny_loadPart' hl
    repeat (first
      | (refine wpAny_ite_false (decide_eq_false (by rw [c0]; exact Bool.false_ne_true)) ?_; wp_walk using wpAny_loadPart' hl)
      | (refine wpAny_ite_false (decide_eq_false (by rw [c1]; exact Bool.false_ne_true)) ?_; wp_walk using wpAny_loadPart' hl)
      | (refine wpAny_ite_true (decide_eq_true (by rw [c2])) ?_; wp_walk using wpAny_loadPart' hl))
    exact ⟨_, rfl, h⟩
section
variable {X : Cx}
def rRep0 (K : PySem.W.Frag) : R2 := fun x y H Q => ∃ l k xs, x = V.ref l ∧ y = V.int k ∧ SqT K H l xs ∧ xs ≠ [] ∧ k ≤ 0 ∧ -1000 ≤ k ∧ ∀ p, H p = none → Q (.ref p) (upd H p (.tup []))
theorem op_rep0 : OpR X (binaryOp .Mult) (rRep0 X.K) := by
  intro pins s σ H x y v u Q I rx ry h
  obtain ⟨l, k, xs, rfl, rfl, hT, hne, h1, h2, q⟩ := h
  cases rx
  obtain ⟨t, rfl⟩ := ry
  obtain ⟨its, r, ⟨⟨cls, dd, data, sl⟩, ho, hc, n, hd⟩, hs⟩ := I.tuple hT
  simp only at hc hd
  subst hc hd
  have hle : its.length = xs.length := r.length.symm
  have hi : its.toArray.isEmpty = false := by
    cases its with
    | nil => exact absurd (List.eq_nil_of_length_eq_zero hle.symm) hne
    | cons a b => rfl
  have c0 : (decide (k < -(2 ^ 63)) || decide (k ≥ 2 ^ 63)) = false := by
    rw [decide_eq_false (by omega), decide_eq_false (by omega)] <;> rfl
  have c1 : (its.toArray.isEmpty || k == 1) = false := by
    rw [hi, Bool.false_or]
    exact beq_eq_false_iff_ne.mpr (by omega)
  have c2 : (decide (k ≤ 0) || its.toArray.isEmpty) = true := by
    rw [decide_eq_true h1, Bool.true_or]
  refine wpAny_binaryOp_repeat_ref (T := "tuple") (U := "int") (by decide) ⟨_, ho, rfl⟩ (fun s' => typeIs_int s' k t) noFill_tuple_mul F.fills_int_mul F.slot_int_rmul repeat_tuple F.slot_int_index.lookup
    (call_meets F.slot_int_rmul (typeIs_int s k t) F.entry_int_rmul (F.args_int_rmul_2 _ _) (int_rmul_tuple k t l its.toArray n dd sl)
      ⟨ho, rfl, ⟨_, ho, rfl⟩, call_meets F.slot_tuple_mul ⟨_, ho, rfl⟩ F.entry_tuple_mul (F.args_tuple_mul_2 _ _) (tup_mul0 l its.toArray n dd sl k t c0 c1 c2) ⟨ho, ?_⟩⟩)
  refine ⟨.ref s.heap.objs.size, _, I.laid (t' := s.toks) (o := .tup []) (fun b ob q => Heap.get?_push_of_some _ q) (Nat.le_refl _) ?_, rfl, q _ (I.hok.fresh (Nat.le_refl _))⟩
  exact ⟨by simp, [], .nil, IsTup.new _ _⟩
end
end Z

namespace N
open PySem L2 PyProof.Rows
open Z (Ext dpUp dpsUp dpsLen dpsGet DxO KyD DEn)

abbrev ME := Lo → Sto → Option (D × Sto)
abbrev MT := Lo → Sto → Option (Bool × Sto)
abbrev MA := Lo → Sto → Option (List D × Sto)
abbrev MO := Lo → Sto → Option (Option Int × Sto)
abbrev ba (X : Cx) : Ba := ⟨X.prog, X.w, X.K⟩
def tE (B : Ba) (e : Lo) (s : Sto) (d : D) (s' : Sto) : TE := fun σ H Q => ∃ w, Ok B w s H ∧ Sl B w e σ ∧ ∀ v w' H', w.le w' → Ok B w' s' H' → VR B w' v d → Q v H'
def tT (B : Ba) (e : Lo) (s : Sto) (b : Bool) (s' : Sto) : TT := fun σ H Q => ∃ w, Ok B w s H ∧ Sl B w e σ ∧ ∀ w' H', w.le w' → Ok B w' s' H' → Q b H'
def tA (B : Ba) (e : Lo) (s : Sto) (ds : List D) (s' : Sto) : TA := fun σ H Q => ∃ w, Ok B w s H ∧ Sl B w e σ ∧ ∀ vs w' H', w.le w' → Ok B w' s' H' → VRs B w' vs ds → Q vs H'
def tO (B : Ba) (e : Lo) (s : Sto) (o : Option Int) (s' : Sto) : TO := fun σ H Q => ∃ w, Ok B w s H ∧ Sl B w e σ ∧ ∀ w' H', w.le w' → Ok B w' s' H' → Q o H'
def NE (X : Cx) (ex : Expr) (m : ME) : Prop := ∀ e s d s', m e s = some (d, s') → PE X ex (tE (ba X) e s d s')
def NT (X : Cx) (ex : Expr) (m : MT) : Prop := ∀ e s b s', m e s = some (b, s') → PT X ex (tT (ba X) e s b s')
def NW (X : Cx) (ex : Expr) (m : MT) : Prop := ∀ e s b s', m e s = some (b, s') → PW X ex (tT (ba X) e s b s')
def NA (X : Cx) (es : List Expr) (m : MA) : Prop := ∀ e s ds s', m e s = some (ds, s') → PA X es (tA (ba X) e s ds s')
def NO (X : Cx) (o : Option Expr) (m : MO) : Prop := ∀ e s i s', m e s = some (i, s') → PO X o (tO (ba X) e s i s')
section
variable {X : Cx} {ex a b c : Expr} {es : List Expr} {m ma mb mc : ME} {pos p : Pos}
theorem PE.imp {e : Expr} {t t' : TE} (h : PE X e t) (i : ∀ σ H Q, t' σ H Q → t σ H Q) : PE X e t' := Z.PE.imp h i
theorem PT.imp {e : Expr} {t t' : TT} (h : PT X e t) (i : ∀ σ H Q, t' σ H Q → t σ H Q) : PT X e t' := Z.PT.imp h i
theorem PW.imp {e : Expr} {t t' : TT} (h : PW X e t) (i : ∀ σ H Q, t' σ H Q → t σ H Q) : PW X e t' := Z.PW.imp h i
theorem PA.imp {t t' : TA} (h : PA X es t) (i : ∀ σ H Q, t' σ H Q → t σ H Q) : PA X es t' := Z.PA.imp h i
theorem NE.fam (h : NE X ex m) : PE X ex (fun σ H Q => ∃ e s d s', m e s = some (d, s') ∧ tE (ba X) e s d s' σ H Q) :=
  ⟨fun pins sh σ H Q I ⟨e, s, d, s', hm, q⟩ => (h e s d s' hm).run pins sh σ H Q I q⟩
theorem NT.fam {m : MT} (h : NT X ex m) : PT X ex (fun σ H Q => ∃ e s d s', m e s = some (d, s') ∧ tT (ba X) e s d s' σ H Q) :=
  ⟨fun pins sh σ H Q I ⟨e, s, d, s', hm, q⟩ => (h e s d s' hm).run pins sh σ H Q I q⟩
theorem NW.fam {m : MT} (h : NW X ex m) : PW X ex (fun σ H Q => ∃ e s d s', m e s = some (d, s') ∧ tT (ba X) e s d s' σ H Q) :=
  ⟨fun w pins sh σ H Q I ⟨e, s, d, s', hm, q⟩ => (h e s d s' hm).run w pins sh σ H Q I q⟩
theorem NA.fam {m : MA} (h : NA X es m) : PA X es (fun σ H Q => ∃ e s d s', m e s = some (d, s') ∧ tA (ba X) e s d s' σ H Q) :=
  ⟨fun pos pins sh σ H Q I ⟨e, s, d, s', hm, q⟩ => (h e s d s' hm).run pos pins sh σ H Q I q⟩

def eVar (i : Nat) : ME := fun e s => match e[i]? with
  | some (some d) => some (d, s)
  | _ => none
def eC (x : PyData) : ME := fun _ s => some (.d x, s)
theorem n_var (i : Nat) {x : Str} (hN : X.N[i]? = some x := by rfl) (hv : Vis X.env.scope x := by first | exact Or.inl rfl | exact Or.inr (Or.inl rfl) | exact Or.inr (Or.inr rfl))
    (hd : (x == ("__debug__" : Str)) = false := by decide) (hcd : (x == ("__classdict__" : Str)) = false := by decide) : NE X (.Name x pos) (eVar i) := fun e s d s' h => by
  unfold eVar at h
  split at h
  · rename_i d' hd'
    cases h
    refine PE.imp (pe_var hN hv hd hcd) fun σ H Q ⟨w, g, l, q⟩ => ?_
    obtain ⟨v, h1, h2⟩ := l.sl i d hd'
    exact ⟨v, h1, q v w H (W.le.refl w) g h2⟩
  · cases h
theorem flat_vr {B : Ba} {w : W} {v : V} {x : PyData} (f : Z.flat v x) : VR B w v (.d x) := Z.flatDp f
theorem n_int {i : Int} {j : Nat} : NE X (.Constant (.int i) j pos) (eC (.int i)) := fun e s d s' h => by
  cases h
  exact PE.imp pe_int fun σ H Q ⟨w, g, l, q⟩ => q _ w H (W.le.refl w) g (flat_vr (show Z.flat (.int i) (.int i) from rfl))
theorem n_bl {i : Bool} {j : Nat} : NE X (.Constant (.bool i) j pos) (eC (.bool i)) := fun e s d s' h => by
  cases h
  exact PE.imp pe_bl fun σ H Q ⟨w, g, l, q⟩ => q _ w H (W.le.refl w) g (flat_vr (show Z.flat (.bl i) (.bool i) from rfl))
theorem n_str {i : Str} {j : Nat} : NE X (.Constant (.str i) j pos) (eC (.str i)) := fun e s d s' h => by
  cases h
  exact PE.imp pe_str fun σ H Q ⟨w, g, l, q⟩ => q _ w H (W.le.refl w) g (flat_vr (show Z.flat (.str i) (.str i) from rfl))
theorem n_non {j : Nat} : NE X (.Constant .none j pos) (eC .none) := fun e s d s' h => by
  cases h
  exact PE.imp pe_non fun σ H Q ⟨w, g, l, q⟩ => q _ w H (W.le.refl w) g (flat_vr (show Z.flat .non .none from trivial))
/-- a name of the module that holds a plain datum -/
def Gv (mg : Str → Option Value) (x : Str) (y : PyData) : Prop := ∃ v u, mg x = some u ∧ RelV v u ∧ Z.flat v y
theorem n_glob {x : Str} {y : PyData} (hm : Gv X.mg x y) (hg : Gl X x := by rfl) (hd : (x == ("__debug__" : Str)) = false := by decide) : NE X (.Name x pos) (eC y) := fun e s d s' h => by
  cases h
  obtain ⟨v, u, h1, h2, h3⟩ := hm
  exact PE.imp (pe_glob hg h1 h2 hd) fun σ H Q ⟨w, g, l, q⟩ => q _ w H (W.le.refl w) g (flat_vr h3)

def aNil : MA := fun _ s => some ([], s)
def aCons (m : ME) (ms : MA) : MA := fun e s => match m e s with
  | some (d, s1) => match ms e s1 with
    | some (ds, s2) => some (d :: ds, s2)
    | none => none
  | none => none
theorem n_nil : NA X [] aNil := fun e s d s' h => by
  cases h
  exact PA.imp pa_nil fun σ H Q ⟨w, g, l, q⟩ => q [] w H (W.le.refl w) g trivial
theorem n_cons {ms : MA} (h1 : NE X ex m) (h2 : NA X es ms) (hs : starEach (ex :: es) X.env = (false, eval ex X.env) :: starEach es X.env := by rfl) : NA X (ex :: es) (aCons m ms) := fun e s ds s' h => by
  unfold aCons at h
  split at h
  · rename_i d s1 e1
    split at h
    · rename_i ds' s2 e2
      cases h
      refine PA.imp (pa_cons (h1 _ _ _ _ e1) (h2 _ _ _ _ e2) hs) fun σ H Q ⟨w, g, l, q⟩ => ⟨w, g, l, fun v w1 H1 l1 g1 v1 => ⟨w1, g1, l.up l1, fun vs w2 H2 l2 g2 v2 => ?_⟩⟩
      exact q (v :: vs) w2 H2 (l1.trans l2) g2 ⟨v1.up l2, v2⟩
    · cases h
  · cases h

def data : List D → Option (List PyData)
  | [] => some []
  | .d x :: r => match data r with
    | some xs => some (x :: xs)
    | none => none
  | .r _ :: _ => none
theorem data_map (xs : List PyData) : data (xs.map .d) = some xs := by
  induction xs with
  | nil => rfl
  | cons x xs ih => rw [List.map_cons]; unfold data; rw [ih]
theorem data_eq : ∀ {ds : List D} {xs : List PyData}, data ds = some xs → ds = xs.map .d
  | [], xs, h => by cases h; rfl
  | .d x :: r, xs, h => by
    unfold data at h
    split at h
    · rename_i ys e
      cases h
      rw [data_eq e]; rfl
    · cases h
  | .r _ :: _, _, h => by cases h
abbrev lim : Nat := 1000000
theorem lim_lt : lim < sizeLine := by decide
/-- a new list: kept for good, or an object of the store -/
def mkL (own : Bool) (s : Sto) (ds : List D) : Option (D × Sto) :=
  if own then some (.r s.length, s ++ [.lst ds]) else match data ds with
    | some xs => some (.d (.list xs), s)
    | none => none
theorem mkL_ok {B : Ba} {w : W} {s s' : Sto} {H : Hp} {own : Bool} {ds : List D} {d : D} {vs : List V} {q : Addr} (h : mkL own s ds = some (d, s')) (g : Ok B w s H) (hq : H q = none) (hv : VRs B w vs ds) :
    ∃ w', w.le w' ∧ Ok B w' s' (upd H q (.lst vs)) ∧ VR B w' (.ref q) d := by
  unfold mkL at h
  split at h
  · cases h
    exact ⟨_, Ok.new_le, g.new hq ⟨ext_none g.ext hq, vs, upd_same, hv.up Ok.new_le⟩, g.new_at⟩
  · split at h
    · rename_i xs e
      cases h
      rw [data_eq e] at hv
      exact ⟨_, g.frz_le hq, g.frz hq, .lst (.of upd_same) (dpsUp (Ext.up (ext_none g.ext hq)) _ _ (VRs.data.mp hv))⟩
    · cases h
def eTup (ms : MA) : ME := fun e s => match ms e s with
  | some (ds, s1) => match data ds with
    | some xs => if xs.length ≤ lim then some (.d (.tuple xs), s1) else none
    | none => none
  | none => none
def eLst (own : Bool) (ms : MA) : ME := fun e s => match ms e s with
  | some (ds, s1) => if ds.length ≤ lim then mkL own s1 ds else none
  | none => none
theorem tup_ok {B : Ba} {w : W} {s : Sto} {H : Hp} {xs : List PyData} {vs : List V} {q : Addr} (g : Ok B w s H) (hq : H q = none) (hv : DpAll B.K w.F vs xs) :
    ∃ w', w.le w' ∧ Ok B w' s (upd H q (.tup vs)) ∧ VR B w' (.ref q) (.d (.tuple xs)) :=
  ⟨_, g.frz_le hq, g.frz hq, .tup (.of upd_same) (dpsUp (Ext.up (ext_none g.ext hq)) _ _ hv)⟩
theorem n_tup {k : Nat} {ms : MA} (h : NA X es ms) : NE X (.Tuple es k pos) (eTup ms) := fun e s d s' hm => by
  unfold eTup at hm
  split at hm
  · rename_i ds s1 e1
    split at hm
    · rename_i xs e2
      split at hm
      · rename_i hl
        cases hm
        refine PE.imp (pe_tup (h _ _ _ _ e1)) fun σ H Q ⟨w, g, l, q⟩ => ⟨w, g, l, fun vs w1 H1 l1 g1 v1 => ?_⟩
        rw [data_eq e2] at v1
        have hd := VRs.data.mp v1
        refine ⟨by rw [dpsLen hd]; exact Nat.le_trans hl (Nat.le_of_lt lim_lt), fun q' hq => ?_⟩
        obtain ⟨w2, l2, g2, v2⟩ := tup_ok g1 hq hd
        exact q _ w2 _ (l1.trans l2) g2 v2
      · cases hm
    · cases hm
  · cases hm
theorem n_lst {own : Bool} {ms : MA} (h : NA X es ms) : NE X (.List es pos) (eLst own ms) := fun e s d s' hm => by
  unfold eLst at hm
  split at hm
  · rename_i ds s1 e1
    split at hm
    · rename_i hl
      refine PE.imp (pe_lst (h _ _ _ _ e1)) fun σ H Q ⟨w, g, l, q⟩ => ⟨w, g, l, fun vs w1 H1 l1 g1 v1 => ?_⟩
      refine ⟨by rw [v1.len]; exact Nat.le_trans hl (Nat.le_of_lt lim_lt), fun q' hq => ?_⟩
      obtain ⟨w2, l2, g2, v2⟩ := mkL_ok hm g1 hq v1
      exact q _ w2 _ (l1.trans l2) g2 v2
    · cases hm
  · cases hm

def asL (s : Sto) : D → Option (List D)
  | .d (.list xs) => some (xs.map .d)
  | .r j => match s[j]? with
    | some (.lst ds) => some ds
    | _ => none
  | _ => none
def pd (s : Sto) : D → Option PyData
  | .d x => some x
  | .r j => match s[j]? with
    | some (.lst ds) => match data ds with
      | some xs => some (.list xs)
      | none => none
    | _ => none
section
variable {B : Ba} {w : W} {s : Sto} {H : Hp} {v : V} {d : D}
theorem asL_ok {ds : List D} (h : asL s d = some ds) (g : Ok B w s H) (hv : VR B w v d) : ∃ p vs, v = .ref p ∧ SqL B.K H p vs ∧ VRs B w vs ds := by
  unfold asL at h
  split at h
  · cases h
    cases hv with
    | lst hs ha => exact ⟨_, _, rfl, g.ext.l hs, VRs.data.mpr ha⟩
  · split at h
    · rename_i j ds' e
      cases h
      obtain ⟨a, h1, rfl⟩ := hv
      obtain ⟨_, vs, h2, h3⟩ := g.ce _ _ a e h1
      exact ⟨a, vs, rfl, .of h2, h3⟩
    · cases h
  · cases h
theorem pd_ok {x : PyData} (h : pd s d = some x) (g : Ok B w s H) (hv : VR B w v d) : Dp B.K H v x := by
  unfold pd at h
  split at h
  · cases h
    exact dpUp g.ext _ _ hv
  · split at h
    · rename_i j ds e
      split at h
      · rename_i xs e2
        cases h
        obtain ⟨a, h1, rfl⟩ := hv
        obtain ⟨_, vs, h2, h3⟩ := g.ce _ _ a e h1
        rw [data_eq e2] at h3
        exact .lst (.of h2) (dpsUp g.ext _ _ (VRs.data.mp h3))
      · cases h
    · cases h
theorem vr_int {i : Int} (h : VR B w v (.d (.int i))) : v = .int i := by cases h; rfl
theorem vr_bl {i : Bool} (h : VR B w v (.d (.bool i))) : v = .bl i := by cases h; rfl
theorem vr_str {i : Str} (h : VR B w v (.d (.str i))) : v = .str i := by cases h; rfl
theorem vr_non (h : VR B w v (.d .none)) : v = .non := by cases h; rfl
theorem vi {i : Int} : VR B w (.int i) (.d (.int i)) := flat_vr (show Z.flat (.int i) (.int i) from rfl)
theorem vb {i : Bool} : VR B w (.bl i) (.d (.bool i)) := flat_vr (show Z.flat (.bl i) (.bool i) from rfl)
theorem vs' {i : Str} : VR B w (.str i) (.d (.str i)) := flat_vr (show Z.flat (.str i) (.str i) from rfl)
theorem vn : VR B w .non (.d .none) := flat_vr (show Z.flat .non .none from trivial)
end

def BiN (B : Ba) (q : R2) (s : Sto) (a b z : D) (s' : Sto) : Prop := ∀ u v w H Q, Ok B w s H → VR B w u a → VR B w v b → (∀ x w' H', w.le w' → Ok B w' s' H' → VR B w' x z → Q x H') → q u v H Q
abbrev FB := Sto → D → D → Option (D × Sto)
def OpS (X : Cx) (op : Operator) (f : FB) : Prop := ∀ s a b z s', f s a b = some (z, s') → ∃ q, OpR X (binaryOp op) q ∧ BiN (ba X) q s a b z s'
def eBin (f : FB) (ma mb : ME) : ME := fun e s => match ma e s with
  | some (a, s1) => match mb e s1 with
    | some (b, s2) => f s2 a b
    | none => none
  | none => none
theorem bin_cases {f : FB} {e : Lo} {s s' : Sto} {z : D} (h : eBin f ma mb e s = some (z, s')) : ∃ a s1 b s2, ma e s = some (a, s1) ∧ mb e s1 = some (b, s2) ∧ f s2 a b = some (z, s') := by
  unfold eBin at h
  split at h
  · rename_i a s1 e1
    split at h
    · rename_i b s2 e2
      exact ⟨a, s1, b, s2, e1, e2, h⟩
    · cases h
  · cases h
theorem bi_run {q : R2} {e : Lo} {s s1 s2 s3 : Sto} {x y z : D} (hq : BiN (ba X) q s2 x y z s3) : ∀ σ H Q, tE (ba X) e s z s3 σ H Q → tOp q (tE (ba X) e s x s1) (tE (ba X) e s1 y s2) σ H Q := fun σ H Q ⟨w, g, l, k⟩ =>
  ⟨w, g, l, fun u w1 H1 l1 g1 v1 => ⟨w1, g1, l.up l1, fun v w2 H2 l2 g2 v2 => hq u v w2 H2 Q g2 (v1.up l2) v2 fun x w3 H3 l3 g3 v3 => k x w3 H3 ((l1.trans l2).trans l3) g3 v3⟩⟩
theorem n_bin {op : Operator} {f : FB} (ho : OpS X op f) (ha : NE X a ma) (hb : NE X b mb) : NE X (.BinOp a op b pos) (eBin f ma mb) := fun e s z s' h => by
  obtain ⟨x, s1, y, s2, e1, e2, e3⟩ := bin_cases h
  obtain ⟨q, hq, hB⟩ := ho _ _ _ _ _ e3
  exact PE.imp (pe_op hq (ha _ _ _ _ e1) (hb _ _ _ _ e2)) (bi_run hB)
theorem BiN.int {B : Ba} {f : Int → Int → V} {i j : Int} {z : PyData} {s : Sto} (hz : Z.flat (f i j) z) : BiN B (rI0 f) s (.d (.int i)) (.d (.int j)) (.d z) s := fun u v w H Q g h1 h2 k => by
  cases vr_int h1
  cases vr_int h2
  exact ⟨i, j, rfl, rfl, k _ w H (W.le.refl w) g (flat_vr hz)⟩
theorem BiN.intC {B : Ba} {C : Int → Int → Prop} {f : Int → Int → V} {i j : Int} {z : PyData} {s : Sto} (hc : C i j) (hz : Z.flat (f i j) z) : BiN B (rI C f) s (.d (.int i)) (.d (.int j)) (.d z) s := fun u v w H Q g h1 h2 k => by
  cases vr_int h1
  cases vr_int h2
  exact ⟨i, j, rfl, rfl, hc, k _ w H (W.le.refl w) g (flat_vr hz)⟩
def i2 (f : Int → Int → Option Int) : FB := fun s a b => match a, b with
  | .d (.int i), .d (.int j) => match f i j with
    | some k => some (.d (.int k), s)
    | none => none
  | _, _ => none
theorem i2_cases {f : Int → Int → Option Int} {s s' : Sto} {a b z : D} (h : i2 f s a b = some (z, s')) : ∃ i j k, a = .d (.int i) ∧ b = .d (.int j) ∧ f i j = some k ∧ z = .d (.int k) ∧ s' = s := by
  unfold i2 at h
  split at h
  · rename_i i j
    split at h
    · rename_i k e
      cases h
      exact ⟨i, j, k, rfl, rfl, e, rfl, rfl⟩
    · cases h
  · cases h
def oSub : FB := i2 fun i j => some (i - j)
def oXor : FB := i2 fun i j => some (Builtin.bitXor i j)
def oDiv : FB := i2 fun i j => if 0 < j ∧ j.natAbs.log2 < 9000 then some (i / j) else none
def oMod : FB := i2 fun i j => if 0 < j then some (i % j) else none
theorem op0 {op : Operator} {f : Int → Int → Int} (h : OpR X (binaryOp op) (rI0 fun i j => .int (f i j))) : OpS X op (i2 fun i j => some (f i j)) := fun s a b z s' e => by
  obtain ⟨i, j, k, rfl, rfl, e1, rfl, rfl⟩ := i2_cases e
  cases e1
  exact ⟨_, h, BiN.int (show Z.flat (.int _) (.int _) from rfl)⟩
theorem opC {op : Operator} {f : Int → Int → Int} {C : Int → Int → Prop} {c : Int → Int → Prop} [∀ i j, Decidable (c i j)] (h : OpR X (binaryOp op) (rI C fun i j => .int (f i j))) (hc : ∀ i j, c i j → C i j) : OpS X op (i2 fun i j => if c i j then some (f i j) else none) := fun s a b z s' e => by
  obtain ⟨i, j, k, rfl, rfl, e1, rfl, rfl⟩ := i2_cases e
  split at e1
  · cases e1
    exact ⟨_, h, BiN.intC (hc i j ‹_›) (show Z.flat (.int _) (.int _) from rfl)⟩
  · cases e1
theorem o_sub : OpS X .Sub oSub := op0 op_sub
theorem o_div : OpS X .FloorDiv oDiv := opC op_fdivW fun i j h => h
theorem o_mod : OpS X .Mod oMod := opC op_mod fun i j h => h
/-- + : numbers, texts, tuples, lists -/
def oAdd (own : Bool) : FB := fun s a b => match a, b with
  | .d (.int i), .d (.int j) => some (.d (.int (i + j)), s)
  | .d (.tuple xs), .d (.tuple ys) => if xs.length + ys.length ≤ lim then some (.d (.tuple (xs ++ ys)), s) else none
  | .d (.str x), .d (.str y) => if x.length + y.length ≤ lim then some (.d (.str (x ++ y)), s) else none
  | a, b => match asL s a with
    | some ds => match asL s b with
      | some es => if ds.length + es.length ≤ lim then mkL own s (ds ++ es) else none
      | none => none
    | none => none
theorem dp_tup {K : PySem.W.Frag} {F : Hp} {v : V} {xs : List PyData} (h : Dp K F v (.tuple xs)) : ∃ a vs, v = .ref a ∧ SqT K F a vs ∧ DpAll K F vs xs := by
  cases h with
  | tup h1 h2 => exact ⟨_, _, rfl, h1, h2⟩
theorem o_add {own : Bool} : OpS X .Add (oAdd own) := fun s a b z s' e => by
  unfold oAdd at e
  split at e
  · cases e
    exact ⟨_, op_add, BiN.int (show Z.flat (.int _) (.int _) from rfl)⟩
  · rename_i xs ys
    split at e
    · rename_i hl
      cases e
      refine ⟨_, op_catA, fun u v w H Q g h1 h2 k => ?_⟩
      obtain ⟨a, us, rfl, t1, d1⟩ := dp_tup h1
      obtain ⟨b, vs, rfl, t2, d2⟩ := dp_tup h2
      refine ⟨a, b, us, vs, rfl, rfl, g.ext.t t1, g.ext.t t2, by rw [dpsLen d1, dpsLen d2]; exact Nat.le_trans hl (Nat.le_of_lt lim_lt), fun e => ?_, fun _ e => ?_, fun _ _ p hp => ?_⟩
      · subst e
        cases d1
        exact k _ w H (W.le.refl w) g h2
      · subst e
        cases d2
        exact k _ w H (W.le.refl w) g (by rw [List.append_nil]; exact h1)
      · obtain ⟨w', l, g', v'⟩ := tup_ok g hp (Z.dpsApp d1 d2)
        exact k _ w' _ l g' v'
    · cases e
  · rename_i x y
    split at e
    · rename_i hl
      cases e
      refine ⟨_, op_add_str, fun u v w H Q g h1 h2 k => ?_⟩
      cases vr_str h1
      cases vr_str h2
      exact ⟨x, y, rfl, rfl, Nat.le_trans hl (Nat.le_of_lt lim_lt), k _ w H (W.le.refl w) g vs'⟩
    · cases e
  · split at e
    · rename_i ds e1
      split at e
      · rename_i es e2
        split at e
        · rename_i hl
          refine ⟨_, Z.op_catQ, fun u v w H Q g h1 h2 k => ?_⟩
          obtain ⟨p1, us, rfl, q1, r1⟩ := asL_ok e1 g h1
          obtain ⟨p2, vs, rfl, q2, r2⟩ := asL_ok e2 g h2
          refine ⟨p1, p2, us, vs, rfl, rfl, q1, q2, by rw [r1.len, r2.len]; exact Nat.le_trans hl (Nat.le_of_lt lim_lt), fun p hp => ?_⟩
          obtain ⟨w', l, g', v'⟩ := mkL_ok e g hp (r1.app r2)
          exact k _ w' _ l g' v'
        · cases e
      · cases e
    · cases e
theorem flat_rep {α β : Type} (R : List α → List β → Prop) (h0 : R [] []) (hA : ∀ {a b c d}, R a c → R b d → R (a ++ b) (c ++ d)) {xs : List α} {ys : List β} (h : R xs ys) : ∀ n : Nat, R (List.replicate n xs).flatten (List.replicate n ys).flatten
  | 0 => h0
  | n + 1 => by
    rw [List.replicate_succ, List.replicate_succ, List.flatten_cons, List.flatten_cons]
    exact hA h (flat_rep R h0 hA h n)
/-- * : numbers, a tuple some times -/
def oMul : FB := fun s a b => match a, b with
  | .d (.int i), .d (.int j) => if ((-(2 ^ 64) < i ∧ i < 2 ^ 64) ∨ (-(2 ^ 64) < j ∧ j < 2 ^ 64)) ∨ i.natAbs.log2 + j.natAbs.log2 < 1000000 then some (.d (.int (i * j)), s) else none
  | .d (.tuple xs), .d (.int k) => if xs ≠ [] ∧ 1 ≤ k ∧ k ≤ 1000 ∧ xs.length ≤ 1000 then some (.d (.tuple (List.replicate k.toNat xs).flatten), s) else if xs ≠ [] ∧ k ≤ 0 ∧ -1000 ≤ k then some (.d (.tuple []), s) else none
  | _, _ => none
theorem o_mul : OpS X .Mult oMul := fun s a b z s' e => by
  unfold oMul at e
  split at e
  · split at e
    · rename_i hc
      cases e
      rcases hc with hc | hc
      · exact ⟨_, op_mul, BiN.intC hc (show Z.flat (.int _) (.int _) from rfl)⟩
      · exact ⟨_, op_mulW, BiN.intC hc (show Z.flat (.int _) (.int _) from rfl)⟩
    · cases e
  · rename_i xs k'
    split at e
    · rename_i hl
      cases e
      obtain ⟨h1, h2, h3, h4⟩ := hl
      refine ⟨_, Z.op_repQ, fun u v w H Q g q1 q2 k => ?_⟩
      obtain ⟨a, us, rfl, t1, d1⟩ := dp_tup q1
      cases vr_int q2
      refine ⟨a, k', us, rfl, rfl, g.ext.t t1, fun e => h1 (by subst e; cases d1; rfl), h2, h3, by rw [dpsLen d1]; exact h4, fun e => ?_, fun _ p hp => ?_⟩
      · subst e
        refine k _ w H (W.le.refl w) g ?_
        show Dp _ _ _ (.tuple (List.replicate 1 xs).flatten)
        rw [List.replicate_succ, List.replicate_zero, List.flatten_cons, List.flatten_nil, List.append_nil]
        exact q1
      · obtain ⟨w', l, g', v'⟩ := tup_ok g hp (flat_rep (fun vs xs => DpAll _ w.F vs xs) .nil (fun a b => Z.dpsApp a b) d1 k'.toNat)
        exact k _ w' _ l g' v'
    · split at e
      · rename_i hl
        cases e
        obtain ⟨h1, h2, h3⟩ := hl
        refine ⟨_, Z.op_rep0, fun u v w H Q g q1 q2 k => ?_⟩
        obtain ⟨a, us, rfl, t1, d1⟩ := dp_tup q1
        cases vr_int q2
        refine ⟨a, k', us, rfl, rfl, g.ext.t t1, fun e => h1 (by subst e; cases d1; rfl), h2, h3, fun p hp => ?_⟩
        obtain ⟨w', l, g', v'⟩ := tup_ok (xs := []) (vs := []) g hp .nil
        exact k _ w' _ l g' v'
      · cases e
  · cases e
def eNeg (m : ME) : ME := fun e s => match m e s with
  | some (.d (.int i), s1) => some (.d (.int (-i)), s1)
  | _ => none
theorem n_neg (h : NE X a m) : NE X (.UnaryOp .USub a pos) (eNeg m) := fun e s d s' hm => by
  unfold eNeg at hm
  split at hm
  · rename_i i s1 e1
    cases hm
    refine PE.imp (pe_un un_neg (h _ _ _ _ e1)) fun σ H Q ⟨w, g, l, q⟩ => ⟨w, g, l, fun v w1 H1 l1 g1 v1 => ?_⟩
    cases vr_int v1
    exact ⟨i, rfl, q _ w1 H1 l1 g1 vi⟩
  · cases hm

abbrev FC := Sto → D → D → Option Bool
def CmpS (X : Cx) (op : CmpOp) (f : FC) : Prop := ∀ s a b k, f s a b = some k → ∃ q, OpR X (compareOp op) q ∧ BiN (ba X) q s a b (.d (.bool k)) s
def eCmp (f : FC) : ME → ME → ME := eBin fun s a b => match f s a b with
  | some k => some (.d (.bool k), s)
  | none => none
def tCmp (f : FC) (ma mb : ME) : MT := fun e s => match ma e s with
  | some (a, s1) => match mb e s1 with
    | some (b, s2) => match f s2 a b with
      | some k => some (k, s2)
      | none => none
    | none => none
  | none => none
theorem n_cmp {op : CmpOp} {f : FC} (ho : CmpS X op f) (ha : NE X a ma) (hb : NE X b mb) (hm : behindInMarks op b = false := by first | exact nomark _ | rfl) : NE X (.Compare a [op] [b] pos) (eCmp f ma mb) := fun e s z s' h => by
  obtain ⟨x, s1, y, s2, e1, e2, e3⟩ := bin_cases h
  split at e3
  · rename_i k ek
    cases e3
    obtain ⟨q, hq, hB⟩ := ho _ _ _ _ ek
    exact PE.imp (pe_cmpR hq (ha _ _ _ _ e1) (hb _ _ _ _ e2) hm) (bi_run hB)
  · cases e3
theorem nt_cmp {op : CmpOp} {f : FC} (ho : CmpS X op f) (ha : NE X a ma) (hb : NE X b mb) (hm : behindInMarks op b = false := by first | exact nomark _ | rfl) : NT X (.Compare a [op] [b] pos) (tCmp f ma mb) := fun e s k s' h => by
  unfold tCmp at h
  split at h
  · rename_i x s1 e1
    split at h
    · rename_i y s2 e2
      split at h
      · rename_i k' ek
        cases h
        obtain ⟨q, hq, hB⟩ := ho _ _ _ _ ek
        refine PT.imp (pt_cmpR hq (ha _ _ _ _ e1) (hb _ _ _ _ e2) hm) fun σ H Q ⟨w, g, l, q'⟩ => ?_
        refine bi_run hB σ H _ ⟨w, g, l, fun v w' H' l' g' v' => ?_⟩
        exact ⟨k, vr_bl v', q' w' H' l' g'⟩
      · cases h
    · cases h
  · cases h
def c2 (f : Int → Int → Bool) : FC := fun _ a b => match a, b with
  | .d (.int i), .d (.int j) => some (f i j)
  | _, _ => none
def cLt : FC := c2 fun i j => decide (i < j)
def cLe : FC := c2 fun i j => decide (i ≤ j)
def cGt : FC := c2 fun i j => decide (j < i)
def cGe : FC := c2 fun i j => decide (j ≤ i)
theorem c2_ok {op : CmpOp} {f : Int → Int → Bool} (h : OpR X (compareOp op) (rI0 fun i j => .bl (f i j))) : CmpS X op (c2 f) := fun s a b k e => by
  unfold c2 at e
  split at e
  · cases e
    exact ⟨_, h, BiN.int (show Z.flat (.bl _) (.bool _) from rfl)⟩
  · cases e
theorem c_lt : CmpS X .Lt cLt := c2_ok op_lt
theorem c_gt : CmpS X .Gt cGt := c2_ok op_gt
theorem c_ge : CmpS X .GtE cGe := c2_ok op_ge
/-- == of any data -/
def cEqv (s : Sto) (a b : D) : Option Bool := match a, b with
  | .d (.int i), .d (.int j) => some (decide (i = j))
  | a, b => match pd s a with
    | some x => match pd s b with
      | some y => if x.plain = true ∧ y.plain = true ∧ min x.depth y.depth ≤ 60 then some (PyData.eqv x y) else none
      | none => none
    | none => none
def cEq : FC := cEqv
def cNe : FC := fun s a b => match cEqv s a b with
  | some k => some (!k)
  | none => none
theorem eqv_int (i j : Int) : PyData.eqv (.int i) (.int j) = decide (i = j) := by
  simp only [PyData.eqv]
  rw [Bool.eq_iff_iff]
  simp
theorem eqv_cases {s : Sto} {a b : D} {k : Bool} (h : cEqv s a b = some k) : ∃ x y, pd s a = some x ∧ pd s b = some y ∧ x.plain = true ∧ y.plain = true ∧ min x.depth y.depth ≤ 60 ∧ k = PyData.eqv x y := by
  unfold cEqv at h
  split at h
  · rename_i i j
    cases h
    exact ⟨.int i, .int j, rfl, rfl, rfl, rfl, by simp [PyData.depth], (eqv_int i j).symm⟩
  · split at h
    · rename_i x e1
      split at h
      · rename_i y e2
        split at h
        · rename_i hc
          cases h
          exact ⟨x, y, e1, e2, hc.1, hc.2.1, hc.2.2, rfl⟩
        · cases h
      · cases h
    · cases h
theorem c_eq (hu : X.A.units + 64 < cLine) : CmpS X .Eq cEq := fun s a b k e => by
  obtain ⟨x, y, e1, e2, p1, p2, hd, rfl⟩ := eqv_cases e
  exact ⟨_, Z.op_eqZ, fun u v w H Q g h1 h2 q => ⟨x, y, pd_ok e1 g h1, pd_ok e2 g h2, p1, p2, by show X.A.units + _ < _; omega, q _ w H (W.le.refl w) g vb⟩⟩
theorem c_ne (hu : X.A.units + 64 < cLine) : CmpS X .NotEq cNe := fun s a b k e => by
  unfold cNe at e
  split at e
  · rename_i k' e'
    cases e
    obtain ⟨x, y, e1, e2, p1, p2, hd, rfl⟩ := eqv_cases e'
    exact ⟨_, Z.op_neZ, fun u v w H Q g h1 h2 q => ⟨x, y, pd_ok e1 g h1, pd_ok e2 g h2, p1, p2, by show X.A.units + _ < _; omega, q _ w H (W.le.refl w) g vb⟩⟩
  · cases e
/-- is None -/
def isNone : D → Bool
  | .d .none => true
  | _ => false
def cIsN (neg : Bool) : FC := fun s a b => match b with
  | .d .none => some (if neg then !isNone a else isNone a)
  | _ => none
theorem isNone_ok {B : Ba} {w : W} {v : V} {a : D} (h : VR B w v a) : isNone a = decide (v = .non) := by
  cases a with
  | r j => obtain ⟨p, _, rfl⟩ := h; rfl
  | d x => cases h <;> rfl
theorem c_is : CmpS X .Is (cIsN false) := fun s a b k e => by
  unfold cIsN at e
  split at e
  · cases e
    refine ⟨_, op_isN, fun u v w H Q g h1 h2 q => ?_⟩
    cases vr_non h2
    exact ⟨rfl, q _ w H (W.le.refl w) g (by rw [isNone_ok h1]; exact vb)⟩
  · cases e
theorem c_isnot : CmpS X .IsNot (cIsN true) := fun s a b k e => by
  unfold cIsN at e
  split at e
  · cases e
    refine ⟨_, op_notN, fun u v w H Q g h1 h2 q => ?_⟩
    cases vr_non h2
    exact ⟨rfl, q _ w H (W.le.refl w) g (by rw [isNone_ok h1]; exact vb)⟩
  · cases e
end
end N

namespace N
open PySem L2 PyProof.Rows
open Z (Ext dpUp dpsUp dpsLen dpsGet DxO KyD DEn Cl cut)
section
variable {X : Cx} {ex a b c : Expr} {es : List Expr} {m ma mb mc : ME} {ms : MA} {mt mu : MT} {pos p : Pos} {f : FB}

def truD (s : Sto) : D → Option Bool
  | .d .none => some false
  | .d (.bool b) => some b
  | .d (.int i) => some (i != 0)
  | .d (.str y) => if y.length ≤ lim then some ((y.length : Int) != 0) else none
  | .d (.tuple xs) => some (!xs.isEmpty)
  | .d (.list xs) => some (!xs.isEmpty)
  | .d (.dict _) => none
  | .r j => match s[j]? with
    | some (.lst ds) => some (!ds.isEmpty)
    | some (.dk kvs) => some (!kvs.isEmpty)
    | _ => none
theorem len_empty {α β : Type} {l : List α} {m : List β} (h : l.length = m.length) : l.isEmpty = m.isEmpty := Z.empty_len h
theorem KR.len {B : Ba} {w : W} : ∀ {xs : List (Key × V)} {kvs : List (Key × D)}, KR B w xs kvs → xs.length = kvs.length
  | [], [], _ => rfl
  | v :: vs, d :: ds, ⟨h1, h2⟩ => by simp [KR.len h2]
  | [], _ :: _, h => h.elim
  | _ :: _, [], h => h.elim
theorem tru_ok {B : Ba} {w : W} {s : Sto} {H : Hp} {v : V} {d : D} {k : Bool} (h : truD s d = some k) (g : Ok B w s H) (hv : VR B w v d) : TruV B.K v H k := by
  cases d with
  | d x =>
    cases hv with
    | non => cases h; rfl
    | bl b => cases h; rfl
    | int i => cases h; rfl
    | str y =>
      have h : (if y.length ≤ lim then some ((y.length : Int) != 0) else none) = some k := h
      split at h
      · rename_i hl
        cases h
        exact ⟨Nat.le_trans hl (Nat.le_of_lt lim_lt), rfl⟩
      · cases h
    | lst hs ha => cases h; exact .inl ⟨_, g.ext.l hs, by rw [len_empty (dpsLen ha)]⟩
    | tup hs ha => cases h; exact .inr (.inl ⟨_, g.ext.t hs, by rw [len_empty (dpsLen ha)]⟩)
  | r j =>
    obtain ⟨q, h1, rfl⟩ := hv
    have h : (match s[j]? with
      | some (.lst ds) => some (!ds.isEmpty)
      | some (.dk kvs) => some (!kvs.isEmpty)
      | _ => none) = some k := h
    split at h
    · rename_i ds e
      cases h
      obtain ⟨_, vs, h2, h3⟩ := g.ce _ _ q e h1
      exact .inl ⟨_, .of h2, by rw [len_empty h3.len]⟩
    · rename_i ds e
      cases h
      obtain ⟨_, vs, h2, h3⟩ := g.ce _ _ q e h1
      exact .inr (.inr ⟨_, h2, by rw [len_empty h3.len]⟩)
    · cases h
def tVal (m : ME) : MT := fun e s => match m e s with
  | some (d, s1) => match truD s1 d with
    | some k => some (k, s1)
    | none => none
  | none => none
theorem nt_val (h : NE X ex m) (he : ∀ whole, isTrue ex X.env whole = (do let v ← whole; standAt ex.pos; holding [v] (truthy v)) := by intro _; rfl) : NT X ex (tVal m) := fun e s k s' hm => by
  unfold tVal at hm
  split at hm
  · rename_i d s1 e1
    split at hm
    · rename_i k' e2
      cases hm
      exact PT.imp (pt_truth (h _ _ _ _ e1) he) fun σ H Q ⟨w, g, l, q⟩ => ⟨w, g, l, fun v w1 H1 l1 g1 v1 => ⟨k, tru_ok e2 g1 v1, q w1 H1 l1 g1⟩⟩
    · cases hm
  · cases hm
def tNot (mt : MT) : MT := fun e s => match mt e s with
  | some (k, s1) => some (!k, s1)
  | none => none
theorem nt_not (h : NT X a mt) : NT X (.UnaryOp .Not a pos) (tNot mt) := fun e s k s' hm => by
  unfold tNot at hm
  split at hm
  · rename_i k' s1 e1
    cases hm
    exact PT.imp (pt_not (h _ _ _ _ e1)) fun σ H Q ⟨w, g, l, q⟩ => ⟨w, g, l, fun w1 H1 l1 g1 => q w1 H1 l1 g1⟩
  · cases hm
def tAnd (mt mu : MT) : MT := fun e s => match mt e s with
  | some (true, s1) => mu e s1
  | some (false, s1) => some (false, s1)
  | none => none
def tOr (mt mu : MT) : MT := fun e s => match mt e s with
  | some (false, s1) => mu e s1
  | some (true, s1) => some (true, s1)
  | none => none
theorem nw_and1 (h : NT X a mt) : NW X (.BoolOp .And [a] pos) mt := fun e s k s' hm => pw_and1 (h _ _ _ _ hm)
theorem nw_or1 (h : NT X a mt) : NW X (.BoolOp .Or [a] pos) mt := fun e s k s' hm => pw_or1 (h _ _ _ _ hm)
theorem nw_and (h1 : NT X a mt) (h2 : NW X (.BoolOp .And (b :: es) pos) mu) : NW X (.BoolOp .And (a :: b :: es) pos) (tAnd mt mu) := fun e s k s' hm => by
  unfold tAnd at hm
  split at hm
  · rename_i s1 e1
    exact PW.imp (pw_and (h1 _ _ _ _ e1) (h2 _ _ _ _ hm)) fun σ H Q ⟨w, g, l, q⟩ => ⟨w, g, l, fun w1 H1 l1 g1 => ⟨w1, g1, l.up l1, fun w2 H2 l2 g2 => q w2 H2 (l1.trans l2) g2⟩⟩
  · rename_i s1 e1
    cases hm
    exact PW.imp (pw_and (h1 _ _ _ _ e1) h2.fam) fun σ H Q ⟨w, g, l, q⟩ => ⟨w, g, l, fun w1 H1 l1 g1 => q w1 H1 l1 g1⟩
  · cases hm
theorem nw_or (h1 : NT X a mt) (h2 : NW X (.BoolOp .Or (b :: es) pos) mu) : NW X (.BoolOp .Or (a :: b :: es) pos) (tOr mt mu) := fun e s k s' hm => by
  unfold tOr at hm
  split at hm
  · rename_i s1 e1
    exact PW.imp (pw_or (h1 _ _ _ _ e1) (h2 _ _ _ _ hm)) fun σ H Q ⟨w, g, l, q⟩ => ⟨w, g, l, fun w1 H1 l1 g1 => ⟨w1, g1, l.up l1, fun w2 H2 l2 g2 => q w2 H2 (l1.trans l2) g2⟩⟩
  · rename_i s1 e1
    cases hm
    exact PW.imp (pw_or (h1 _ _ _ _ e1) h2.fam) fun σ H Q ⟨w, g, l, q⟩ => ⟨w, g, l, fun w1 H1 l1 g1 => q w1 H1 l1 g1⟩
  · cases hm
theorem nt_bo {op : BoolOp} (h : NW X (.BoolOp op es pos) mt) : NT X (.BoolOp op es pos) mt := fun e s k s' hm => PW.pt (h _ _ _ _ hm)

theorem n_one {op : BoolOp} (h : NE X a m) : NE X (.BoolOp op [a] pos) m := fun e s d s' hm => pe_one (h _ _ _ _ hm)
def eAnd (ma mb : ME) : ME := fun e s => match ma e s with
  | some (d, s1) => match truD s1 d with
    | some true => mb e s1
    | some false => some (d, s1)
    | none => none
  | none => none
def eOr (ma mb : ME) : ME := fun e s => match ma e s with
  | some (d, s1) => match truD s1 d with
    | some false => mb e s1
    | some true => some (d, s1)
    | none => none
  | none => none
theorem n_and (h1 : NE X a ma) (h2 : NE X (.BoolOp .And (b :: es) pos) mb) : NE X (.BoolOp .And (a :: b :: es) pos) (eAnd ma mb) := fun e s d s' hm => by
  unfold eAnd at hm
  split at hm
  · rename_i d1 s1 e1
    split at hm
    · rename_i e2
      refine PE.imp (pe_andT (h1 _ _ _ _ e1) (h2 _ _ _ _ hm)) fun σ H Q ⟨w, g, l, q⟩ => ⟨w, g, l, fun v w1 H1 l1 g1 v1 => ?_⟩
      exact ⟨true, tru_ok e2 g1 v1, ⟨w1, g1, l.up l1, fun v w2 H2 l2 g2 v2 => q v w2 H2 (l1.trans l2) g2 v2⟩⟩
    · rename_i e2
      cases hm
      refine PE.imp (pe_andT (h1 _ _ _ _ e1) h2.fam) fun σ H Q ⟨w, g, l, q⟩ => ⟨w, g, l, fun v w1 H1 l1 g1 v1 => ?_⟩
      exact ⟨false, tru_ok e2 g1 v1, q v w1 H1 l1 g1 v1⟩
    · cases hm
  · cases hm
theorem n_or (h1 : NE X a ma) (h2 : NE X (.BoolOp .Or (b :: es) pos) mb) : NE X (.BoolOp .Or (a :: b :: es) pos) (eOr ma mb) := fun e s d s' hm => by
  unfold eOr at hm
  split at hm
  · rename_i d1 s1 e1
    split at hm
    · rename_i e2
      refine PE.imp (pe_orT (h1 _ _ _ _ e1) (h2 _ _ _ _ hm)) fun σ H Q ⟨w, g, l, q⟩ => ⟨w, g, l, fun v w1 H1 l1 g1 v1 => ?_⟩
      exact ⟨false, tru_ok e2 g1 v1, ⟨w1, g1, l.up l1, fun v w2 H2 l2 g2 v2 => q v w2 H2 (l1.trans l2) g2 v2⟩⟩
    · rename_i e2
      cases hm
      refine PE.imp (pe_orT (h1 _ _ _ _ e1) h2.fam) fun σ H Q ⟨w, g, l, q⟩ => ⟨w, g, l, fun v w1 H1 l1 g1 v1 => ?_⟩
      exact ⟨true, tru_ok e2 g1 v1, q v w1 H1 l1 g1 v1⟩
    · cases hm
  · cases hm
def eNot (m : ME) : ME := fun e s => match m e s with
  | some (d, s1) => match truD s1 d with
    | some k => some (.d (.bool (!k)), s1)
    | none => none
  | none => none
theorem n_not (h : NE X a m) : NE X (.UnaryOp .Not a pos) (eNot m) := fun e s d s' hm => by
  unfold eNot at hm
  split at hm
  · rename_i d1 s1 e1
    split at hm
    · rename_i k e2
      cases hm
      exact PE.imp (pe_notT (h _ _ _ _ e1)) fun σ H Q ⟨w, g, l, q⟩ => ⟨w, g, l, fun v w1 H1 l1 g1 v1 => ⟨k, tru_ok e2 g1 v1, q _ w1 H1 l1 g1 vb⟩⟩
    · cases hm
  · cases hm
def eIte (mt : MT) (ma mb : ME) : ME := fun e s => match mt e s with
  | some (true, s1) => ma e s1
  | some (false, s1) => mb e s1
  | none => none
theorem n_ite (hc : NT X c mt) (ha : NE X a ma) (hb : NE X b mb) : NE X (.IfExp c a b pos) (eIte mt ma mb) := fun e s d s' hm => by
  unfold eIte at hm
  split at hm
  · rename_i s1 e1
    exact PE.imp (pe_ifExp (hc _ _ _ _ e1) (ha _ _ _ _ hm) Z.pe_noway) fun σ H Q ⟨w, g, l, q⟩ => ⟨w, g, l, fun w1 H1 l1 g1 => ⟨w1, g1, l.up l1, fun v w2 H2 l2 g2 v2 => q v w2 H2 (l1.trans l2) g2 v2⟩⟩
  · rename_i s1 e1
    exact PE.imp (pe_ifExp (hc _ _ _ _ e1) Z.pe_noway (hb _ _ _ _ hm)) fun σ H Q ⟨w, g, l, q⟩ => ⟨w, g, l, fun w1 H1 l1 g1 => ⟨w1, g1, l.up l1, fun v w2 H2 l2 g2 v2 => q v w2 H2 (l1.trans l2) g2 v2⟩⟩
  · cases hm
/-- a < b < c of numbers; the last one leaves the store -/
def chK (f g : Int → Int → Bool) (ma mb mc : ME) : MT := fun e s => match ma e s with
  | some (.d (.int i), s1) => match mb e s1 with
    | some (.d (.int j), s2) => if f i j then match mc e s2 with
        | some (.d (.int k), s3) => some (g j k, s3)
        | _ => none
      else some (false, s2)
    | _ => none
  | _ => none
def eCh (f g : Int → Int → Bool) (ma mb mc : ME) : ME := fun e s => match chK f g ma mb mc e s with
  | some (k, s1) => some (.d (.bool k), s1)
  | none => none
theorem ch_cases {f g : Int → Int → Bool} {e : Lo} {s s' : Sto} {k : Bool} (h : chK f g ma mb mc e s = some (k, s')) : ∃ i s1 j s2, ma e s = some (.d (.int i), s1) ∧ mb e s1 = some (.d (.int j), s2) ∧ ((f i j = true ∧ ∃ l, mc e s2 = some (.d (.int l), s') ∧ k = g j l) ∨ (f i j = false ∧ k = false ∧ s' = s2)) := by
  unfold chK at h
  split at h
  · rename_i i s1 e1
    split at h
    · rename_i j s2 e2
      refine ⟨i, s1, j, s2, e1, e2, ?_⟩
      split at h
      · rename_i hf
        split at h
        · rename_i l s3 e3
          cases h
          exact .inl ⟨hf, l, e3, rfl⟩
        · cases h
      · rename_i hf
        cases h
        exact .inr ⟨by simpa using hf, rfl, rfl⟩
    · cases h
  · cases h
theorem n_ch {op op' : CmpOp} {f g : Int → Int → Bool} (h1 : OpR X (compareOp op) (rI0 fun i j => .bl (f i j))) (h2 : OpR X (compareOp op') (rI0 fun i j => .bl (g i j))) (ha : NE X a ma) (hb : NE X b mb) (hc : NE X c mc) (hm : lastMarks [op, op'] [b, c] = false := by with_unfolding_all rfl) :
    NE X (.Compare a [op, op'] [b, c] pos) (eCh f g ma mb mc) := fun e s d s' h => by
  unfold eCh at h
  split at h
  · rename_i k s1' e0
    cases h
    obtain ⟨i, s1, j, s2, e1, e2, h3⟩ := ch_cases e0
    rcases h3 with ⟨hf, l, e3, rfl⟩ | ⟨hf, rfl, rfl⟩
    · refine PE.imp (pe_chain h1 h2 (ha _ _ _ _ e1) (hb _ _ _ _ e2) (hc _ _ _ _ e3) hm) fun σ H Q ⟨w, G, L, q⟩ => ?_
      refine ⟨w, G, L, fun v w1 H1 l1 g1 v1 => ⟨w1, g1, L.up l1, fun u w2 H2 l2 g2 v2 => ?_⟩⟩
      cases vr_int v1
      cases vr_int v2
      refine ⟨i, j, rfl, rfl, _, rfl, ?_⟩
      rw [hf, if_pos rfl]
      refine ⟨w2, g2, (L.up l1).up l2, fun z w3 H3 l3 g3 v3 => ?_⟩
      cases vr_int v3
      exact ⟨j, l, rfl, rfl, q _ w3 H3 ((l1.trans l2).trans l3) g3 vb⟩
    · refine PE.imp (pe_chain h1 h2 (ha _ _ _ _ e1) (hb _ _ _ _ e2) hc.fam hm) fun σ H Q ⟨w, G, L, q⟩ => ?_
      refine ⟨w, G, L, fun v w1 H1 l1 g1 v1 => ⟨w1, g1, L.up l1, fun u w2 H2 l2 g2 v2 => ?_⟩⟩
      cases vr_int v1
      cases vr_int v2
      refine ⟨i, j, rfl, rfl, _, rfl, ?_⟩
      rw [hf, if_neg Bool.false_ne_true]
      exact q _ w2 H2 (l1.trans l2) g2 vb
  · cases h
theorem nt_ch {op op' : CmpOp} {f g : Int → Int → Bool} (h1 : OpR X (compareOp op) (rI0 fun i j => .bl (f i j))) (h2 : OpR X (compareOp op') (rI0 fun i j => .bl (g i j))) (ha : NE X a ma) (hb : NE X b mb) (hc : NE X c mc) (hm : lastMarks [op, op'] [b, c] = false := by with_unfolding_all rfl) :
    NT X (.Compare a [op, op'] [b, c] pos) (chK f g ma mb mc) := fun e s d s' e0 => by
  obtain ⟨i, s1, j, s2, e1, e2, h3⟩ := ch_cases e0
  rcases h3 with ⟨hf, l, e3, rfl⟩ | ⟨hf, rfl, rfl⟩
  · refine PT.imp (pt_chain h1 h2 (ha _ _ _ _ e1) (hb _ _ _ _ e2) (hc _ _ _ _ e3) hm) fun σ H Q ⟨w, G, L, q⟩ => ?_
    refine ⟨w, G, L, fun v w1 H1 l1 g1 v1 => ⟨w1, g1, L.up l1, fun u w2 H2 l2 g2 v2 => ?_⟩⟩
    cases vr_int v1
    cases vr_int v2
    refine ⟨i, j, rfl, rfl, _, rfl, ?_⟩
    rw [hf, if_pos rfl]
    refine ⟨w2, g2, (L.up l1).up l2, fun z w3 H3 l3 g3 v3 => ?_⟩
    cases vr_int v3
    exact ⟨j, l, rfl, rfl, _, rfl, q w3 H3 ((l1.trans l2).trans l3) g3⟩
  · refine PT.imp (pt_chain h1 h2 (ha _ _ _ _ e1) (hb _ _ _ _ e2) hc.fam hm) fun σ H Q ⟨w, G, L, q⟩ => ?_
    refine ⟨w, G, L, fun v w1 H1 l1 g1 v1 => ⟨w1, g1, L.up l1, fun u w2 H2 l2 g2 v2 => ?_⟩⟩
    cases vr_int v1
    cases vr_int v2
    refine ⟨i, j, rfl, rfl, _, rfl, ?_⟩
    rw [hf, if_neg Bool.false_ne_true]
    exact ⟨_, rfl, q w2 H2 (l1.trans l2) g2⟩

def cInQ (neg : Bool) (x : PyData) (ds : List PyData) : Option Bool :=
  if PyData.plainAll ds = true ∧ x.plain = true ∧ min (PyData.depthAll ds) x.depth ≤ 60 then some (if neg then !(ds.any fun z => PyData.eqv z x) else ds.any fun z => PyData.eqv z x) else none
noncomputable def dHas (kvs : List (PyData × D)) (x : PyData) : Bool := kvs.any fun kv => decide (kv.1 = x)
def kHas (kvs : List (Key × D)) (k : Key) : Bool := kvs.any fun kv => decide (kv.1 = k)
def isKey (x : PyData) : Bool := Z.isTup x && Z.kOK x && decide (Z.dep x ≤ 8)
def keyOf : PyData → Option Key
  | .int i => some (.inl i)
  | .str x => some (.inr x)
  | _ => none
/-- x in: a tuple, a list, a dict of the store -/
noncomputable def cIn (neg : Bool) : FC := fun s a b => match b with
  | .d (.tuple ds) => match pd s a with
    | some x => cInQ neg x ds
    | none => none
  | .d (.list ds) => match pd s a with
    | some x => cInQ neg x ds
    | none => none
  | .r j => match s[j]? with
    | some (.lst ds) => match data ds with
      | some ds => match pd s a with
        | some x => cInQ neg x ds
        | none => none
      | none => none
    | some (.dic kvs) => match a with
      | .d x => if isKey x then some (if neg then !dHas kvs x else dHas kvs x) else none
      | _ => none
    | some (.dk kvs) => match a with
      | .d x => match keyOf x with
        | some k => some (if neg then !kHas kvs k else kHas kvs k)
        | none => none
      | _ => none
    | _ => none
  | _ => none
theorem DR.has {B : Ba} {w : W} {x : PyData} : ∀ {xs : List DEn} {kvs : List (PyData × D)}, DR B w xs kvs → (atKey xs x).isSome = dHas kvs x
  | [], [], _ => rfl
  | e :: xs, kv :: kvs, ⟨⟨h1, _⟩, h⟩ => by
    have ih := DR.has (x := x) h
    unfold atKey dHas at ih ⊢
    rw [Option.isSome_map] at ih ⊢
    rw [List.find?_cons, List.any_cons, ← ih, h1]
    by_cases hk : kv.1 = x
    · simp [hk]
    · simp [hk]
  | [], _ :: _, h => h.elim
  | _ :: _, [], h => h.elim
theorem DR.ky {B : Ba} {w : W} {H : Hp} (e : Ext w.F H) : ∀ {xs : List DEn} {kvs : List (PyData × D)}, DR B w xs kvs → ∀ x ∈ xs, KyD B.K H x.2.1 x.1
  | [], [], _, x, h => by cases h
  | y :: xs, kv :: kvs, ⟨⟨_, ⟨h2, h3⟩, _⟩, h⟩, x, hx => by
    rcases List.mem_cons.mp hx with rfl | hx
    · exact ⟨dpUp e _ _ h2, h3⟩
    · exact DR.ky e h x hx
  | [], _ :: _, h, _, _ => h.elim
  | _ :: _, [], h, _, _ => h.elim
theorem key_ok {B : Ba} {w : W} {v : V} {x : PyData} (hk : isKey x = true) (hv : VR B w v (.d x)) : ∃ b, v = .ref b ∧ KyD B.K w.F b x := by
  unfold isKey at hk
  simp only [Bool.and_eq_true, decide_eq_true_eq] at hk
  obtain ⟨⟨h1, h2⟩, h3⟩ := hk
  cases x with
  | tuple ds =>
    have hv' : Dp B.K w.F v (.tuple ds) := hv
    obtain ⟨b, vs, rfl, _, _⟩ := dp_tup hv'
    exact ⟨b, rfl, hv', h2, h3⟩
  | _ => simp [Z.isTup] at h1
theorem keyOf_ok {B : Ba} {w : W} {v : V} {x : PyData} {k : Key} (hk : keyOf x = some k) (hv : VR B w v (.d x)) : v = kV k := by
  cases x with
  | int i => cases hk; exact vr_int hv
  | str i => cases hk; exact vr_str hv
  | _ => cases hk
end
end N

namespace N
open PySem L2 PyProof.Rows
open Z (Ext dpUp dpsUp dpsLen dpsGet DxO KyD DEn Cl cut)
section
variable {X : Cx} {ex a b c : Expr} {es : List Expr} {m ma mb mc : ME} {ms : MA} {mt mu : MT} {pos p : Pos}

abbrev FA := Sto → List D → Option (D × Sto)
def CaN (B : Ba) (q : List V → Hp → VK → Prop) (s : Sto) (ds : List D) (z : D) (s' : Sto) : Prop := ∀ us w H Q, Ok B w s H → VRs B w us ds → (∀ v w' H', w.le w' → Ok B w' s' H' → VR B w' v z → Q v H') → q us H Q
def CalS (X : Cx) (u : Value) (f : FA) : Prop := ∀ s ds z s', f s ds = some (z, s') → ∃ q, CallR X u q ∧ CaN (ba X) q s ds z s'
def eCall (f : FA) (ms : MA) : ME := fun e s => match ms e s with
  | some (ds, s1) => f s1 ds
  | none => none
theorem call_cases {f : FA} {e : Lo} {s s' : Sto} {z : D} (h : eCall f ms e s = some (z, s')) : ∃ ds s1, ms e s = some (ds, s1) ∧ f s1 ds = some (z, s') := by
  unfold eCall at h
  split at h
  · rename_i ds s1 e1
    exact ⟨ds, s1, e1, h⟩
  · cases h
theorem n_callB {f : FA} {id : String} {x : Str} (hc : CalS X (.builtin id) f) (ha : NA X (ex :: es) ms) (hm : X.mg x = none) (hv : bootBuiltins x = some (.builtin id) := by decide +kernel) (cl : Cl X x ex es pos := by exact ⟨rfl, rfl, rfl⟩) (hn : x ≠ "__name__" := by decide)
    (hdb : (x == ("__debug__" : Str)) = false := by decide) : NE X (.Call (.Name x p) (ex :: es) [] pos) (eCall f ms) := fun e s z s' h => by
  obtain ⟨ds, s1, e1, e2⟩ := call_cases h
  obtain ⟨q, hq, hB⟩ := hc _ _ _ _ e2
  exact PE.imp (pe_callB hq cl.1 hm hv (ha _ _ _ _ e1) hn hdb cl.2.1 cl.2.2) fun σ H Q ⟨w, g, l, k⟩ => ⟨w, g, l, fun us w1 H1 l1 g1 v1 => hB us w1 H1 Q g1 v1 fun v w2 H2 l2 g2 v2 => k v w2 H2 (l1.trans l2) g2 v2⟩
theorem n_callT {f : FA} {id : String} {x : Str} (hc : CalS X (.type id) f) (ha : NA X (ex :: es) ms) (hm : X.mg x = none) (hv : bootBuiltins x = some (.type id) := by decide +kernel) (cl : Cl X x ex es pos := by exact ⟨rfl, rfl, rfl⟩) (hn : x ≠ "__name__" := by decide)
    (hdb : (x == ("__debug__" : Str)) = false := by decide) : NE X (.Call (.Name x p) (ex :: es) [] pos) (eCall f ms) := fun e s z s' h => by
  obtain ⟨ds, s1, e1, e2⟩ := call_cases h
  obtain ⟨q, hq, hB⟩ := hc _ _ _ _ e2
  exact PE.imp (pe_callTy hq cl.1 hm hv (ha _ _ _ _ e1) hn hdb cl.2.1 cl.2.2) fun σ H Q ⟨w, g, l, k⟩ => ⟨w, g, l, fun us w1 H1 l1 g1 v1 => hB us w1 H1 Q g1 v1 fun v w2 H2 l2 g2 v2 => k v w2 H2 (l1.trans l2) g2 v2⟩
theorem vrs1 {B : Ba} {w : W} {us : List V} {d : D} (h : VRs B w us [d]) : ∃ u, us = [u] ∧ VR B w u d := by
  match us, h with
  | [u], ⟨h1, _⟩ => exact ⟨u, rfl, h1⟩
theorem vrs2 {B : Ba} {w : W} {us : List V} {d d' : D} (h : VRs B w us [d, d']) : ∃ u v, us = [u, v] ∧ VR B w u d ∧ VR B w v d' := by
  match us, h with
  | [u, v], ⟨h1, h2, _⟩ => exact ⟨u, v, rfl, h1, h2⟩
/-- one argument, a datum out, the store as it was -/
def f1 (g : Sto → D → Option PyData) : FA := fun s ds => match ds with
  | [d] => match g s d with
    | some x => some (.d x, s)
    | none => none
  | _ => none
theorem f1_ok {u : Value} {g : Sto → D → Option PyData} (h : ∀ s d x, g s d = some x → ∃ q, CallR X u q ∧ ∀ v w H Q, Ok (ba X) w s H → VR (ba X) w v d → (∀ v' w' H', w.le w' → Ok (ba X) w' s H' → VR (ba X) w' v' (.d x) → Q v' H') → q [v] H Q) : CalS X u (f1 g) := fun s ds z s' e => by
  unfold f1 at e
  split at e
  · rename_i d
    split at e
    · rename_i x e1
      cases e
      obtain ⟨q, h1, h2⟩ := h s d x e1
      refine ⟨q, h1, fun us w H Q G hv k => ?_⟩
      obtain ⟨v, rfl, hv1⟩ := vrs1 hv
      exact h2 v w H Q G hv1 k
    · cases e
  · cases e
def lenG (s : Sto) : D → Option PyData
  | .d (.str x) => if x.length ≤ lim then some (.int (x.length : Nat)) else none
  | .d (.tuple xs) => some (.int (xs.length : Nat))
  | d => match asL s d with
    | some ds => some (.int (ds.length : Nat))
    | none => none
def bLen : FA := f1 lenG
theorem b_len : CalS X (.builtin "len") bLen := f1_ok fun s d x e => by
  unfold lenG at e
  split at e
  · rename_i y
    split at e
    · rename_i hl
      cases e
      refine ⟨_, call_len_str, fun v w H Q G hv k => ?_⟩
      cases vr_str hv
      exact ⟨y, rfl, Nat.le_trans hl (Nat.le_of_lt lim_lt), k _ w H (W.le.refl w) G vi⟩
    · cases e
  · rename_i xs
    cases e
    refine ⟨_, call_len_seq, fun v w H Q G hv k => ?_⟩
    obtain ⟨q, vs, rfl, h1, h2⟩ := dp_tup hv
    exact ⟨q, vs, rfl, .inr (G.ext.t h1), k _ w H (W.le.refl w) G (by rw [dpsLen h2]; exact vi)⟩
  · split at e
    · rename_i ds e1
      cases e
      refine ⟨_, call_len_seq, fun v w H Q G hv k => ?_⟩
      obtain ⟨q, vs, rfl, h1, h2⟩ := asL_ok e1 G hv
      exact ⟨q, vs, rfl, .inl h1, k _ w H (W.le.refl w) G (by rw [h2.len]; exact vi)⟩
    · cases e
def bInt : FA := f1 fun _ d => match d with
  | .d (.int i) => some (.int i)
  | .d (.bool b) => some (.int (if b then 1 else 0))
  | _ => none
theorem b_int : CalS X (.type "int") bInt := f1_ok fun s d x e => by
  split at e
  · rename_i i
    cases e
    refine ⟨_, call_int1, fun v w H Q G hv k => ?_⟩
    cases vr_int hv
    exact .inl ⟨i, rfl, k _ w H (W.le.refl w) G vi⟩
  · rename_i b
    cases e
    refine ⟨_, call_int1, fun v w H Q G hv k => ?_⟩
    cases vr_bl hv
    exact .inr ⟨b, rfl, k _ w H (W.le.refl w) G vi⟩
  · cases e
def bStr : FA := f1 fun _ d => match d with
  | .d (.int i) => if i.natAbs.log2 < 1920 then some (.str (toString i)) else none
  | _ => none
theorem b_str : CalS X (.type "str") bStr := f1_ok fun s d x e => by
  split at e
  · rename_i i
    split at e
    · rename_i hl
      cases e
      refine ⟨_, call_str_int, fun v w H Q G hv k => ?_⟩
      cases vr_int hv
      exact ⟨i, rfl, hl, k _ w H (W.le.refl w) G vs'⟩
    · cases e
  · cases e
def intsOf : List D → Option (List Int)
  | [] => some []
  | .d (.int i) :: r => match intsOf r with
    | some xs => some (i :: xs)
    | none => none
  | _ => none
theorem ints_eq : ∀ {ds : List D} {xs : List Int}, intsOf ds = some xs → ds = xs.map fun i => .d (.int i)
  | [], xs, h => by cases h; rfl
  | .d (.int x) :: r, xs, h => by
    unfold intsOf at h
    split at h
    · rename_i ys e
      cases h
      rw [ints_eq e]; rfl
    · cases h
  | .r _ :: _, _, h => by cases h
  | .d .none :: _, _, h => by cases h
  | .d (.bool _) :: _, _, h => by cases h
  | .d (.str _) :: _, _, h => by cases h
  | .d (.list _) :: _, _, h => by cases h
  | .d (.tuple _) :: _, _, h => by cases h
  | .d (.dict _) :: _, _, h => by cases h
theorem vrs_ints {B : Ba} {w : W} : ∀ {xs : List Int} {vs : List V}, VRs B w vs (xs.map fun i => .d (.int i)) → vs = xs.map V.int
  | [], [], _ => rfl
  | x :: xs, v :: vs, ⟨h1, h2⟩ => by rw [vr_int h1, vrs_ints h2]; rfl
  | [], _ :: _, h => h.elim
  | _ :: _, [], h => h.elim
def bools : List D → Option (List Bool)
  | [] => some []
  | .d (.bool i) :: r => match bools r with
    | some xs => some (i :: xs)
    | none => none
  | _ => none
theorem bools_eq : ∀ {ds : List D} {xs : List Bool}, bools ds = some xs → ds = xs.map fun i => .d (.bool i)
  | [], xs, h => by cases h; rfl
  | .d (.bool x) :: r, xs, h => by
    unfold bools at h
    split at h
    · rename_i ys e
      cases h
      rw [bools_eq e]; rfl
    · cases h
  | .r _ :: _, _, h => by cases h
  | .d .none :: _, _, h => by cases h
  | .d (.int _) :: _, _, h => by cases h
  | .d (.str _) :: _, _, h => by cases h
  | .d (.list _) :: _, _, h => by cases h
  | .d (.tuple _) :: _, _, h => by cases h
  | .d (.dict _) :: _, _, h => by cases h
theorem vrs_bools {B : Ba} {w : W} : ∀ {xs : List Bool} {vs : List V}, VRs B w vs (xs.map fun i => .d (.bool i)) → vs = xs.map V.bl
  | [], [], _ => rfl
  | x :: xs, v :: vs, ⟨h1, h2⟩ => by rw [vr_bl h1, vrs_bools h2]; rfl
  | [], _ :: _, h => h.elim
  | _ :: _, [], h => h.elim
def qL (g : List D → Option PyData) : FA := f1 fun s d => match asL s d with
  | some ds => g ds
  | none => none
def bAll : FA := qL fun ds => match bools ds with
  | some bs => some (.bool (bs.all id))
  | none => none
def bAny : FA := qL fun ds => match bools ds with
  | some bs => some (.bool (bs.any id))
  | none => none
theorem qL_ok {u : Value} {g : List D → Option PyData} {q : List V → Hp → VK → Prop} (hq : CallR X u q) (h : ∀ ds x, g ds = some x → ∀ p vs w s H (Q : VK), SqL X.K H p vs → VRs (ba X) w vs ds → Ok (ba X) w s H → (∀ v', VR (ba X) w v' (.d x) → Q v' H) → q [.ref p] H Q) : CalS X u (qL g) := f1_ok fun s d x e => by
  split at e
  · rename_i ds e1
    refine ⟨q, hq, fun v w H Q G hv k => ?_⟩
    obtain ⟨p, vs, rfl, h1, h2⟩ := asL_ok e1 G hv
    exact h ds x e p vs w s H Q h1 h2 G fun v' hv' => k v' w H (W.le.refl w) G hv'
  · cases e
theorem b_all (hk : X.calm = true) : CalS X (.builtin "all") bAll := qL_ok (cr_all hk) fun ds x e p vs w s H Q h1 h2 G k => by
  split at e
  · rename_i bs e1
    cases e
    rw [bools_eq e1] at h2
    cases vrs_bools h2
    exact ⟨p, bs, rfl, h1, k _ vb⟩
  · cases e
theorem b_any (hk : X.calm = true) : CalS X (.builtin "any") bAny := qL_ok (cr_any hk) fun ds x e p vs w s H Q h1 h2 G k => by
  split at e
  · rename_i bs e1
    cases e
    rw [bools_eq e1] at h2
    cases vrs_bools h2
    exact ⟨p, bs, rfl, h1, k _ vb⟩
  · cases e
/-- greatest, least of two -/
def f2i (g : Int → Int → Int) : FA := fun s ds => match ds with
  | [.d (.int i), .d (.int j)] => some (.d (.int (g i j)), s)
  | _ => none
def mx2 (i j : Int) : Int := if j > i then j else i
def mn2 (i j : Int) : Int := if j < i then j else i
theorem f2i_ok {u : Value} {g : Int → Int → Int} (hq : CallR X u (fun xs H Q => ∃ i j, xs = [.int i, .int j] ∧ Q (.int (g i j)) H)) : CalS X u (f2i g) := fun s ds z s' e => by
  unfold f2i at e
  split at e
  · rename_i i j
    cases e
    refine ⟨_, hq, fun us w H Q G hv k => ?_⟩
    obtain ⟨u, v, rfl, h1, h2⟩ := vrs2 hv
    cases vr_int h1
    cases vr_int h2
    exact ⟨i, j, rfl, k _ w H (W.le.refl w) G vi⟩
  · cases e
def bMax2 : FA := f2i mx2
def bMin2 : FA := f2i mn2
theorem b_max2 (hk : X.calm = true) : CalS X (.builtin "max") bMax2 := f2i_ok (call_max2 hk)
theorem b_min2 (hk : X.calm = true) : CalS X (.builtin "min") bMin2 := f2i_ok (call_min2 hk)
/-- tuple(x), list(x) -/
def asSeq (s : Sto) (d : D) : Option (List D) := match d with
  | .d (.tuple xs) => some (xs.map .d)
  | d => asL s d
theorem asSeq_ok {B : Ba} {w : W} {s : Sto} {H : Hp} {v : V} {d : D} {ds : List D} (h : asSeq s d = some ds) (g : Ok B w s H) (hv : VR B w v d) : ∃ p vs, v = .ref p ∧ (SqL B.K H p vs ∨ SqT B.K H p vs) ∧ VRs B w vs ds := by
  unfold asSeq at h
  split at h
  · cases h
    obtain ⟨p, vs, rfl, h1, h2⟩ := dp_tup hv
    exact ⟨p, vs, rfl, .inr (g.ext.t h1), VRs.data.mpr h2⟩
  · obtain ⟨p, vs, e1, h1, h2⟩ := asL_ok h g hv
    exact ⟨p, vs, e1, .inl h1, h2⟩
def bTuple : FA := fun s ds => match ds with
  | [.d (.tuple xs)] => some (.d (.tuple xs), s)
  | [d] => match asL s d with
    | some ds => match data ds with
      | some xs => some (.d (.tuple xs), s)
      | none => none
    | none => none
  | _ => none
def bList (own : Bool) : FA := fun s ds => match ds with
  | [d] => match asSeq s d with
    | some ds => mkL own s ds
    | none => none
  | _ => none
theorem b_tuple : CalS X (.type "tuple") bTuple := fun s ds z s' e => by
  unfold bTuple at e
  split at e
  · rename_i xs
    cases e
    refine ⟨_, call_tuple_of, fun us w H Q G hv k => ?_⟩
    obtain ⟨v, rfl, hv1⟩ := vrs1 hv
    obtain ⟨p, vs, rfl, h1, h2⟩ := dp_tup hv1
    exact ⟨p, vs, rfl, .inr ⟨G.ext.t h1, k _ w H (W.le.refl w) G hv1⟩⟩
  · rename_i d _
    split at e
    · rename_i ds e1
      split at e
      · rename_i xs e2
        cases e
        refine ⟨_, call_tuple_of, fun us w H Q G hv k => ?_⟩
        obtain ⟨v, rfl, hv1⟩ := vrs1 hv
        obtain ⟨p, vs, rfl, h1, h2⟩ := asL_ok e1 G hv1
        rw [data_eq e2] at h2
        refine ⟨p, vs, rfl, .inl ⟨h1, fun l hl => ?_⟩⟩
        obtain ⟨w', l', g', v'⟩ := tup_ok G hl (VRs.data.mp h2)
        exact k _ w' _ l' g' v'
      · cases e
    · cases e
  · cases e
theorem b_list {own : Bool} : CalS X (.type "list") (bList own) := fun s ds z s' e => by
  unfold bList at e
  split at e
  · rename_i d
    split at e
    · rename_i ds e1
      refine ⟨_, call_list_of, fun us w H Q G hv k => ?_⟩
      obtain ⟨v, rfl, hv1⟩ := vrs1 hv
      obtain ⟨p, vs, rfl, h1, h2⟩ := asSeq_ok e1 G hv1
      refine ⟨p, vs, rfl, h1, fun l hl => ?_⟩
      obtain ⟨w', l', g', v'⟩ := mkL_ok e G hl h2
      exact k _ w' _ l' g' v'
    · cases e
  · cases e
/-- sorted(xs), xs a list of data of one shape -/
structure SrtOk (xs : List PyData) : Prop where
  al : PySem.W.AllAlike xs
  so : Z.SrtK xs
  dp : ∀ d ∈ xs, d.depth ≤ 60
open Classical in
noncomputable def bSorted (own : Bool) : FA := fun s ds => match ds with
  | [d] => match asL s d with
    | some ds => match data ds with
      | some xs => if SrtOk xs then mkL own s ((Z.srt xs).map .d) else none
      | none => none
    | none => none
  | _ => none
theorem b_sorted (hu : X.A.units + 64 < cLine) {own : Bool} : CalS X (.builtin "sorted") (bSorted own) := fun s ds z s' e => by
  unfold bSorted at e
  split at e
  · rename_i d
    split at e
    · rename_i ds e1
      split at e
      · rename_i xs e2
        split at e
        · rename_i hs
          refine ⟨_, Z.cr_srt, fun us w H Q G hv k => ?_⟩
          obtain ⟨v, rfl, hv1⟩ := vrs1 hv
          obtain ⟨p, vs, rfl, h1, h2⟩ := asL_ok e1 G hv1
          rw [data_eq e2] at h2
          refine ⟨p, w.F, vs, xs, rfl, h1, G.ext, VRs.data.mp h2, hs.al, hs.so, fun d hd => Z.roomS hu (hs.dp d hd), fun l ys hl hy => ?_⟩
          obtain ⟨w', l', g', v'⟩ := mkL_ok e G hl (VRs.data.mpr hy)
          exact k _ w' _ l' g' v'
        · cases e
      · cases e
    · cases e
  · cases e

inductive TyT where | tup | lst | bl | int | str
def TyT.of : TyT → PyData → Bool
  | .tup => Z.isTup | .lst => Z.isLst | .bl => Z.isBl | .int => Z.isInt | .str => Z.isStr
def TyT.nm : TyT → String
  | .tup => "tuple" | .lst => "list" | .bl => "bool" | .int => "int" | .str => "str"
theorem TyT.kit (t : TyT) (x : PyData) : kitB (Z.tyN x) t.nm = some (t.of x) := by
  cases t
  · exact Z.kit_tup x
  · exact Z.kit_lst x
  · exact Z.kit_bl x
  · exact Z.kit_int x
  · exact Z.kit_str x
def eIsi (t : TyT) (m : ME) : ME := fun e s => match m e s with
  | some (d, s1) => match pd s1 d with
    | some x => some (.d (.bool (t.of x)), s1)
    | none => none
  | none => none
theorem n_isi {T : Str} {q : Pos} (t : TyT) (ha : NE X a m) (hm : X.mg "isinstance" = none) (hmT : X.mg T = none) (hv : bootBuiltins T = some (.type t.nm) := by decide +kernel) (hg : Gl X T := by rfl) (hc : Cl X "isinstance" a [.Name T q] pos := by exact ⟨rfl, rfl, rfl⟩)
    (hs : starEach [Expr.Name T q] X.env = [(false, eval (.Name T q) X.env)] := by rfl) (hn : T ≠ "__name__" := by decide) (hd : (T == ("__debug__" : Str)) = false := by decide) :
    NE X (.Call (.Name "isinstance" p) [a, .Name T q] [] pos) (eIsi t m) := fun e s d s' h => by
  unfold eIsi at h
  split at h
  · rename_i d1 s1 e1
    split at h
    · rename_i x e2
      cases h
      refine PE.imp (pe_callB call_isi hc.1 hm (by decide +kernel) (pa_cons (ha _ _ _ _ e1) (pa_cons (pe_bltn hg hmT hv (v := .ty t.nm) rfl hn hd) pa_nil hs) hc.2.1) (by decide) (by decide) hc.2.1 hc.2.2) fun σ H Q ⟨w, g, l, q⟩ => ⟨w, g, l, fun v w1 H1 l1 g1 v1 => ?_⟩
      have d := pd_ok e2 g1 v1
      exact ⟨_, _, _, _, t.of x, rfl, .ty t.nm, Z.dp_ty d, kit_ty (t.kit x), q _ w1 H1 l1 g1 vb⟩
    · cases h
  · cases h

def gIx (s : Sto) (a : D) (i : Int) : Option D := match asSeq s a with
  | some ds => atI ds i
  | none => none
theorem vrs_atI {B : Ba} {w : W} {vs : List V} {ds : List D} {i : Int} {x : D} (h : VRs B w vs ds) (e : atI ds i = some x) : ∃ v, atI vs i = some v ∧ VR B w v x := by
  unfold atI at e ⊢
  rw [h.len]
  cases q : ixN ds.length i with
  | none => rw [q] at e; cases e
  | some j =>
    rw [q] at e
    exact h.get e
def eIx (ma mb : ME) : ME := eBin (fun s a b => match b with
  | .d (.int i) => match gIx s a i with
    | some d => some (d, s)
    | none => none
  | _ => none) ma mb
theorem n_ix (ha : NE X a ma) (hb : NE X b mb) (hs : PlainIx b := by intro _ _; rfl) : NE X (.Subscript a b pos) (eIx ma mb) := fun e s z s' h => by
  obtain ⟨x, s1, y, s2, e1, e2, e3⟩ := bin_cases h
  split at e3
  · rename_i i
    split at e3
    · rename_i d e4
      cases e3
      unfold gIx at e4
      split at e4
      · rename_i ds e5
        have run : ∀ {q : R2}, IxR X q → (∀ p vs v H Q, (SqL X.K H p vs ∨ SqT X.K H p vs) → atI vs i = some v → Q v H → q (.ref p) (.int i) H Q) → PE X (.Subscript a b pos) (tE (ba X) e s z s') := fun hq hr =>
          PE.imp (pe_ix hq (ha _ _ _ _ e1) (hb _ _ _ _ e2) hs) (bi_run fun u v w H Q g h1 h2 k => by
            cases vr_int h2
            obtain ⟨p, vs, rfl, h3, h4⟩ := asSeq_ok e5 g h1
            obtain ⟨v, h5, h6⟩ := vrs_atI h4 e4
            exact hr p vs v H Q h3 h5 (k v w H (W.le.refl w) g h6))
        exact run ix_seq fun p vs v H Q h1 h2 q => h1.elim (fun h => .inl ⟨p, vs, i, v, rfl, rfl, h, h2, q⟩) fun h => .inr (.inl ⟨p, vs, i, v, rfl, rfl, h, h2, q⟩)
      · cases e4
    · cases e3
  · cases e3
def oNone : MO := fun _ s => some (none, s)
def oSome (m : ME) : MO := fun e s => match m e s with
  | some (.d (.int i), s1) => some (some i, s1)
  | _ => none
theorem no_none : NO X none oNone := fun e s i s' h => by
  cases h
  exact Z.PO.imp po_none fun σ H Q ⟨w, g, l, q⟩ => q w H (W.le.refl w) g
theorem no_some (h : NE X ex m) : NO X (some ex) (oSome m) := fun e s i s' hm => by
  unfold oSome at hm
  split at hm
  · rename_i j s1 e1
    cases hm
    exact Z.PO.imp (po_some (h _ _ _ _ e1)) fun σ H Q ⟨w, g, l, q⟩ => ⟨w, g, l, fun v w1 H1 l1 g1 v1 => by
      cases vr_int v1
      exact ⟨j, rfl, q w1 H1 l1 g1⟩⟩
  · cases hm
def cutD {α : Type} (xs : List α) (lo hi : Option Int) : List α := (xs.drop (HT.sIx xs.length 0 lo)).take (HT.sIx xs.length xs.length hi - HT.sIx xs.length 0 lo)
theorem vrs_cut {B : Ba} {w : W} {vs : List V} {ds : List D} {lo hi : Option Int} (h : VRs B w vs ds) : VRs B w (cutV vs lo hi) (cutD ds lo hi) := by
  unfold cutV cutD
  rw [h.len]
  exact VRs.take _ (VRs.drop _ h)
theorem dps_cut {K : PySem.W.Frag} {F : Hp} {vs : List V} {ds : List PyData} {lo hi : Option Int} (h : DpAll K F vs ds) : DpAll K F (cutV vs lo hi) (cutD ds lo hi) := by
  unfold cutV cutD
  rw [dpsLen h]
  exact Z.dpsTake _ (Z.dpsDrop _ h)
def eSl (own : Bool) (ma : ME) (ml mu : MO) : ME := fun e s => match ma e s with
  | some (a, s1) => match ml e s1 with
    | some (l, s2) => match mu e s2 with
      | some (u, s3) => match a with
        | .d (.tuple xs) => some (.d (.tuple (cutD xs l u)), s3)
        | a => match asL s3 a with
          | some ds => mkL own s3 (cutD ds l u)
          | none => none
      | none => none
    | none => none
  | none => none
theorem n_sl {own : Bool} {lo hi : Option Expr} {ml mu : MO} {p2 : Pos} (ha : NE X a ma) (hl : NO X lo ml) (hu : NO X hi mu) : NE X (.Subscript a (.Slice lo hi none p2) pos) (eSl own ma ml mu) := fun e s z s' h => by
  unfold eSl at h
  split at h
  · rename_i a1 s1 e1
    split at h
    · rename_i l s2 e2
      split at h
      · rename_i u s3 e3
        split at h
        · rename_i xs
          cases h
          refine PE.imp (pe_slice sl_tupA (ha _ _ _ _ e1) (hl _ _ _ _ e2) (hu _ _ _ _ e3)) fun σ H Q ⟨w, g, L, k⟩ => ⟨w, g, L, fun v w1 H1 l1 g1 v1 => ⟨w1, g1, L.up l1, fun w2 H2 l2 g2 => ⟨w2, g2, (L.up l1).up l2, fun w3 H3 l3 g3 => ?_⟩⟩⟩
          have v3 := (v1.up l2).up l3
          obtain ⟨p, vs, rfl, h1, h2⟩ := dp_tup v3
          refine ⟨p, vs, rfl, g3.ext.t h1, fun ⟨z1, z2⟩ => ?_, fun _ q hq => ?_⟩
          · have e : cutD xs l u = xs := by
              unfold cutD
              rw [dpsLen h2] at z1 z2
              rw [z1, z2]
              simp
            exact k _ w3 _ ((l1.trans l2).trans l3) g3 (by rw [e]; exact v3)
          · obtain ⟨w4, l4, g4, v4⟩ := tup_ok g3 hq (dps_cut h2)
            exact k _ w4 _ (((l1.trans l2).trans l3).trans l4) g4 v4
        · split at h
          · rename_i ds e4
            refine PE.imp (pe_slice sl_list (ha _ _ _ _ e1) (hl _ _ _ _ e2) (hu _ _ _ _ e3)) fun σ H Q ⟨w, g, L, k⟩ => ⟨w, g, L, fun v w1 H1 l1 g1 v1 => ⟨w1, g1, L.up l1, fun w2 H2 l2 g2 => ⟨w2, g2, (L.up l1).up l2, fun w3 H3 l3 g3 => ?_⟩⟩⟩
            obtain ⟨p, vs, rfl, h1, h2⟩ := asL_ok e4 g3 ((v1.up l2).up l3)
            refine ⟨p, vs, rfl, h1, fun q hq => ?_⟩
            obtain ⟨w4, l4, g4, v4⟩ := mkL_ok h g3 hq (vrs_cut h2)
            exact k _ w4 _ (((l1.trans l2).trans l3).trans l4) g4 v4
          · cases h
      · cases h
    · cases h
  · cases h
/-- a[::-1] -/
def eRev (own : Bool) (m : ME) : ME := fun e s => match m e s with
  | some (.d (.tuple xs), s1) => some (.d (.tuple xs.reverse), s1)
  | some (d, s1) => match asL s1 d with
    | some ds => mkL own s1 ds.reverse
    | none => none
  | none => none
theorem n_rev {own : Bool} {k : Nat} {p1 p2 p3 : Pos} (ha : NE X a m) : NE X (.Subscript a (.Slice none none (some (.UnaryOp .USub (.Constant (.int 1) k p1) p2)) p3) pos) (eRev own m) := fun e s z s' h => by
  unfold eRev at h
  split at h
  · rename_i xs s1 e1
    cases h
    refine PE.imp (Z.pe_revT (ha _ _ _ _ e1)) fun σ H Q ⟨w, g, L, k⟩ => ⟨w, g, L, fun v w1 H1 l1 g1 v1 => ?_⟩
    obtain ⟨p, vs, rfl, h1, h2⟩ := dp_tup v1
    refine ⟨p, vs, rfl, g1.ext.t h1, fun q hq => ?_⟩
    obtain ⟨w4, l4, g4, v4⟩ := tup_ok g1 hq (Z.dpsRev h2)
    exact k _ w4 _ (l1.trans l4) g4 v4
  · rename_i d s1 _ e1
    split at h
    · rename_i ds e2
      refine PE.imp (pe_revL (ha _ _ _ _ e1)) fun σ H Q ⟨w, g, L, k⟩ => ⟨w, g, L, fun v w1 H1 l1 g1 v1 => ?_⟩
      obtain ⟨p, vs, rfl, h1, h2⟩ := asL_ok e2 g1 v1
      refine ⟨p, vs, rfl, h1, fun q hq => ?_⟩
      obtain ⟨w4, l4, g4, v4⟩ := mkL_ok h g1 hq h2.rev
      exact k _ w4 _ (l1.trans l4) g4 v4
    · cases h
  · cases h
end
end N

namespace N
open PySem L2 PyProof.Rows
open Z (Ext dpUp dpsUp dpsLen dpsGet DxO KyD DEn Cl cut offv)

inductive Fl where | nx | rt (d : D) | bk | ct
abbrev MS := Lo → Sto → Option (Fl × Lo × Sto)
def tK (B : Ba) (b : Nat) (w : W) (fl : Fl) (e' : Lo) (s' : Sto) (Dn : Ends) : Prop := match fl with
  | .nx => ∀ w' σ' H', (w.take b).le w' → Ok B w' s' H' → Sl B w' e' σ' → Dn.nx σ' H'
  | .rt d => ∀ w' v H', (w.take b).le w' → Ok B w' s' H' → VR B w' v d → Dn.rt v H'
  | .bk => ∀ w' σ' H', (w.take b).le w' → Ok B w' s' H' → Sl B w' e' σ' → Dn.bk σ' H'
  | .ct => ∀ w' σ' H', (w.take b).le w' → Ok B w' s' H' → Sl B w' e' σ' → Dn.ct σ' H'
def tS (B : Ba) (b : Nat) (e : Lo) (s : Sto) (fl : Fl) (e' : Lo) (s' : Sto) : TS := fun Dn σ H => ∃ w, Ok B w s H ∧ Sl B w e σ ∧ tK B b w fl e' s' Dn
def NS (X : Cx) (st : Stmt) (m : MS) : Prop := ∀ e s fl e' s' b, m e s = some (fl, e', s') → b ≤ s.length → PS X st (tS (ba X) b e s fl e' s')
def NSs (X : Cx) (st : List Stmt) (m : MS) : Prop := ∀ e s fl e' s' b, m e s = some (fl, e', s') → b ≤ s.length → PSs X st (tS (ba X) b e s fl e' s')
section
variable {X : Cx} {ex a b c tg : Expr} {es : List Expr} {st : Stmt} {rest body orelse : List Stmt} {m ma mb mc : ME} {ms : MA} {mt mu : MT} {pos p : Pos} {M M1 M2 : MS}
theorem NSs.fam (h : NSs X rest M) : PSs X rest (fun Dn σ H => ∃ e s fl e' s' b, M e s = some (fl, e', s') ∧ b ≤ s.length ∧ tS (ba X) b e s fl e' s' Dn σ H) :=
  ⟨fun pins sh σ H Dn I ⟨e, s, fl, e', s', b, hm, hb, q⟩ => (h e s fl e' s' b hm hb).run pins sh σ H Dn I q⟩
theorem W.le.cut {w w' : W} (h : w.le w') (b : Nat) : (w.take b).le w' := (W.take_le w b).trans h
theorem W.cut_eq {w w' : W} {b : Nat} (h : (w.take b).le w') (hb : b ≤ w.ρ.length) : b ≤ w'.ρ.length ∧ w'.ρ.take b = w.ρ.take b := by
  obtain ⟨m, hm⟩ := h.ρ
  have hm : w.ρ.take b ++ m = w'.ρ := hm
  have l : (w.ρ.take b).length = b := by rw [List.length_take]; omega
  constructor
  · rw [← hm, List.length_append, l]; omega
  · rw [← hm, List.take_append_of_le_length (by omega), List.take_of_length_le (by omega)]
theorem W.cut_trans {w w1 w2 : W} {b : Nat} (h : (w.take b).le w1) (hb : b ≤ w.ρ.length) (h2 : (w1.take b).le w2) : (w.take b).le w2 := by
  obtain ⟨_, e⟩ := W.cut_eq h hb
  refine ⟨h.F.trans h2.F, ?_⟩
  have k := h2.ρ
  rw [show (w1.take b).ρ = w1.ρ.take b from rfl, e] at k
  exact k
theorem tK.mono {B : Ba} {b : Nat} {w w' : W} {fl : Fl} {e : Lo} {s : Sto} {Dn : Ends} (h : tK B b w fl e s Dn) (l : (w.take b).le w') (hb : b ≤ w.ρ.length) : tK B b w' fl e s Dn := by
  cases fl with
  | nx => exact fun w2 σ H l2 => h w2 σ H (W.cut_trans l hb l2)
  | rt d => exact fun w2 v H l2 => h w2 v H (W.cut_trans l hb l2)
  | bk => exact fun w2 σ H l2 => h w2 σ H (W.cut_trans l hb l2)
  | ct => exact fun w2 σ H l2 => h w2 σ H (W.cut_trans l hb l2)
theorem pss_no : PSs X rest (fun _ _ _ => False) := ⟨fun _ _ _ _ _ _ h => h.elim⟩
def sNil : MS := fun e s => some (.nx, e, s)
def sSeq (a b : MS) : MS := fun e s => match a e s with
  | some (.nx, e1, s1) => b e1 s1
  | r => r
theorem ns_nil : NSs X [] sNil := fun e s fl e' s' b h hb => by
  cases h
  exact Z.PSs.imp pss_nil fun Dn σ H ⟨w, g, l, k⟩ => k w σ H ((W.le.refl w).cut b) g l
theorem ns_seq (h1 : NS X st M1) (h2 : NSs X rest M2) : NSs X (st :: rest) (sSeq M1 M2) := fun e s fl e' s' b h hb => by
  unfold sSeq at h
  split at h
  · rename_i e1 s1 e0
    refine Z.PSs.imp (pss_cons (h1 _ _ _ _ _ b e0 hb) h2.fam) fun Dn σ H ⟨w, g, l, k⟩ => ?_
    have hw : b ≤ w.ρ.length := by rw [g.lr]; exact hb
    refine ⟨w, g, l, fun w1 σ1 H1 l1 g1 sl1 => ?_⟩
    exact ⟨e1, s1, fl, e', s', b, h, by rw [← g1.lr]; exact (W.cut_eq l1 hw).1, w1, g1, sl1, k.mono l1 hw⟩
  · rename_i r hr
    refine Z.PSs.imp (pss_cons (h1 _ _ _ _ _ b h hb) pss_no) fun Dn σ H ⟨w, g, l, k⟩ => ⟨w, g, l, ?_⟩
    cases fl with
    | nx => exact absurd h (hr _ _)
    | rt d => exact k
    | bk => exact k
    | ct => exact k
def sSet (i : Nat) (m : ME) : MS := fun e s => match m e s with
  | some (d, s1) => some (.nx, e.set i (some d), s1)
  | none => none
theorem ns_set {x : Str} {p' : Pos} (i : Nat) (h : NE X ex m) (hN : X.N.Nodup) (hx : X.N[i]? = some x := by rfl) (hl : Loc X.env.scope x := by first | exact .inl rfl | exact .inr rfl) (hs : swapsWith ex (some (.Name x p')) pos.line X.env = pure false := by rfl)
    (hf : X.fn x = true ∨ X.env.scope.names.lookup x = some .local := by first | exact .inl rfl | exact .inr rfl) : NS X (.Assign [.Name x p'] ex pos) (sSet i m) := fun e s fl e' s' b hm hb => by
  unfold sSet at hm
  split at hm
  · rename_i d s1 e1
    cases hm
    exact Z.PS.imp (ps_set hN hx hl (h _ _ _ _ e1) hs hf) fun Dn σ H ⟨w, g, l, k⟩ => ⟨w, g, l, fun v w1 H1 l1 g1 v1 => k w1 _ H1 (l1.cut b) g1 ((l.up l1).put i v1)⟩
  · cases hm
def sRet (m : ME) : MS := fun e s => match m e s with
  | some (d, s1) => some (.rt d, e, s1)
  | none => none
theorem ns_ret (h : NE X ex m) : NS X (.Return (some ex) pos) (sRet m) := fun e s fl e' s' b hm hb => by
  unfold sRet at hm
  split at hm
  · rename_i d s1 e1
    cases hm
    exact Z.PS.imp (ps_ret (h _ _ _ _ e1)) fun Dn σ H ⟨w, g, l, k⟩ => ⟨w, g, l, fun v w1 H1 l1 g1 v1 => k w1 v H1 (l1.cut b) g1 v1⟩
  · cases hm
def sExpr (m : ME) : MS := fun e s => match m e s with
  | some (_, s1) => some (.nx, e, s1)
  | none => none
theorem ns_expr (h : NE X ex m) (hs : swapsWith ex none pos.line X.env = pure false := by rfl) : NS X (.Expr ex pos) (sExpr m) := fun e s fl e' s' b hm hb => by
  unfold sExpr at hm
  split at hm
  · rename_i d s1 e1
    cases hm
    exact Z.PS.imp (ps_expr (h _ _ _ _ e1) hs) fun Dn σ H ⟨w, g, l, k⟩ => ⟨w, g, l, fun v w1 H1 l1 g1 v1 => k w1 σ H1 (l1.cut b) g1 (l.up l1)⟩
  · cases hm
def sPass : MS := fun e s => some (.nx, e, s)
def sCt : MS := fun e s => some (.ct, e, s)
def sBk : MS := fun e s => some (.bk, e, s)
def sIf (mt : MT) (M1 M2 : MS) : MS := fun e s => match mt e s with
  | some (true, s1) => M1 e s1
  | some (false, s1) => M2 e s1
  | none => none
theorem le_len {B : Ba} {w w' : W} {s s' : Sto} {H H' : Hp} (l : w.le w') (g : Ok B w s H) (g' : Ok B w' s' H') : s.length ≤ s'.length := by
  rw [← g.lr, ← g'.lr]
  exact l.ρ.length_le
theorem ns_if (hc : NT X c mt) (h1 : NSs X body M1) (h2 : NSs X orelse M2) : NS X (.If c body orelse pos) (sIf mt M1 M2) := fun e s fl e' s' b hm hb => by
  have go : ∀ k s1, mt e s = some (k, s1) → (if k then M1 else M2) e s1 = some (fl, e', s') → PS X (.If c body orelse pos) (tS (ba X) b e s fl e' s') := fun k s1 e1 e2 => by
    refine Z.PS.imp (ps_if (hc _ _ _ _ e1) h1.fam h2.fam) fun Dn σ H ⟨w, g, l, q⟩ => ⟨w, g, l, fun w1 H1 l1 g1 => ?_⟩
    have hb1 : b ≤ s1.length := Nat.le_trans hb (le_len l1 g g1)
    have q1 := q.mono (l1.cut b) (by rw [g.lr]; exact hb)
    cases k with
    | true => exact ⟨e, s1, fl, e', s', b, e2, hb1, w1, g1, l.up l1, q1⟩
    | false => exact ⟨e, s1, fl, e', s', b, e2, hb1, w1, g1, l.up l1, q1⟩
  unfold sIf at hm
  split at hm
  · rename_i s1 e1
    exact go true s1 e1 hm
  · rename_i s1 e1
    exact go false s1 e1 hm
  · cases hm

abbrev MG := D → Lo → Option Lo
abbrev MGs := List PyData → Lo → Option Lo
def tG (B : Ba) (vs : List Nat) (s : Sto) (d : D) (e e' : Lo) : TG := fun v σ H Q => ∃ w, Ok B w s H ∧ Sl B w e σ ∧ VR B w v d ∧ ∀ σ', offv vs σ σ' → Sl B w e' σ' → Q σ' H
def tGs (B : Ba) (vs : List Nat) (s : Sto) (xs : List PyData) (e e' : Lo) : TGs := fun us σ H Q => ∃ w, Ok B w s H ∧ Sl B w e σ ∧ DpAll B.K w.F us xs ∧ ∀ σ', offv vs σ σ' → Sl B w e' σ' → Q σ' H
def NG (X : Cx) (tg : Expr) (vs : List Nat) (g : MG) : Prop := ∀ s d e e', g d e = some e' → PG X tg (tG (ba X) vs s d e e')
def NGs (X : Cx) (tgs : List Expr) (vs : List Nat) (g : MGs) : Prop := ∀ s d e e', g d e = some e' → PGs X tgs (tGs (ba X) vs s d e e')
theorem NG.fam {vs : List Nat} {g : MG} (h : NG X tg vs g) : PG X tg (fun v σ H Q => ∃ s d e e', g d e = some e' ∧ tG (ba X) vs s d e e' v σ H Q) :=
  ⟨fun pins sh σ H v u Q I r ⟨s, d, e, e', m, q⟩ => (h s d e e' m).run pins sh σ H v u Q I r q⟩
def gName (k : Nat) : MG := fun d e => some (e.set k (some d))
def gTup (gs : MGs) : MG := fun d e => match d with
  | .d (.tuple xs) => gs xs e
  | _ => none
def gsNil : MGs := fun xs e => match xs with
  | [] => some e
  | _ => none
def gsCons (g : MG) (gs : MGs) : MGs := fun xs e => match xs with
  | x :: xs => match g (.d x) e with
    | some e1 => gs xs e1
    | none => none
  | [] => none
theorem ng_name {y : Str} {vs : List Nat} (k : Nat) (hN : X.N.Nodup) (hv : k ∈ vs := by simp) (hi : X.N[k]? = some y := by rfl) (hx : Loc X.env.scope y := by first | exact .inl rfl | exact .inr rfl)
    (hf : X.fn y = true ∨ X.env.scope.names.lookup y = some .local := by first | exact .inl rfl | exact .inr rfl) : NG X (.Name y pos) vs (gName k) := fun s d e e' h => by
  cases h
  exact Z.PG.imp (pg_name hN hi hx hf) fun v σ H Q ⟨w, g, l, hv1, q⟩ => q _ (Z.offv_set hv) (l.put k hv1)
theorem ngs_nil {vs : List Nat} : NGs X [] vs gsNil := fun s d e e' h => by
  unfold gsNil at h
  split at h
  · cases h
    exact Z.PGs.imp pgs_nil fun us σ H Q ⟨w, g, l, hv1, q⟩ => by
      cases hv1
      exact ⟨rfl, q σ ⟨rfl, fun _ _ => rfl⟩ l⟩
  · cases h
theorem ngs_cons {vs : List Nat} {t : Expr} {ts : List Expr} {g : MG} {gs : MGs} (h1 : NG X t vs g) (h2 : NGs X ts vs gs) (hs : (assignEach (t :: ts) X.env).map (·.2) = assign t X.env :: (assignEach ts X.env).map (·.2) := by rfl) : NGs X (t :: ts) vs (gsCons g gs) := fun s d e e' h => by
  unfold gsCons at h
  split at h
  · rename_i x xs
    split at h
    · rename_i e1 h0
      refine Z.PGs.imp (pgs_cons (h1 s _ _ _ h0) (h2 s _ _ _ h) hs) fun us σ H Q ⟨w, g, l, hv1, q⟩ => ?_
      cases hv1 with
      | cons v1 v2 => exact ⟨_, _, rfl, w, g, l, v1, fun σ1 o1 l1 => ⟨w, g, l1, v2, fun σ2 o2 l2 => q σ2 (o1.trans o2) l2⟩⟩
    · cases h
  · cases h
/-- as many parts as names -/
def gsLenOk (n : Nat) (gs : MGs) : MGs := fun xs e => if xs.length = n then gs xs e else none
theorem ng_tup {vs : List Nat} {ts : List Expr} {k n : Nat} {gs : MGs} (h : NGs X ts vs gs) (hc : X.calm = true := by rfl) (hn : (assignEach ts X.env).length = n := by rfl) (hst : (assignEach ts X.env).findIdx? (·.1) = none := by rfl) : NG X (.Tuple ts k pos) vs (gTup (gsLenOk n gs)) := fun s d e e' hm => by
  unfold gTup at hm
  split at hm
  · rename_i xs
    unfold gsLenOk at hm
    split at hm
    · rename_i hl
      refine Z.PG.imp (pg_tup hc (h s _ _ _ hm) (hn.trans hl.symm) hst) fun v σ H Q ⟨w, g, l, hv1, q⟩ => ?_
      obtain ⟨c, us, rfl, h1, h2⟩ := dp_tup hv1
      exact ⟨c, us, rfl, g.ext.t h1, dpsLen h2, w, g, l, h2, q⟩
    · cases hm
  · cases hm
def sAsg (g : MG) (m : ME) : MS := fun e s => match m e s with
  | some (d, s1) => match g d e with
    | some e1 => some (.nx, e1, s1)
    | none => none
  | none => none
theorem ns_asg {vs : List Nat} {g : MG} (he : NE X ex m) (hg : NG X tg vs g) (hs : swapsWithSole [tg] ex pos.line X.env = pure false := by rfl) (hw : swappedStores [tg] ex X.env = pure none := by rfl) (h1 : (assignEach [tg] X.env).map (·.2) = [assign tg X.env] := by rfl) :
    NS X (.Assign [tg] ex pos) (sAsg g m) := fun e s fl e' s' b hm hb => by
  unfold sAsg at hm
  split at hm
  · rename_i d s1 e1
    split at hm
    · rename_i e2 h2
      cases hm
      exact Z.PS.imp (ps_asg (he _ _ _ _ e1) (hg s' _ _ _ h2) hs hw h1) fun Dn σ H ⟨w, g, l, k⟩ => ⟨w, g, l, fun v w1 H1 l1 g1 v1 => ⟨w1, g1, l.up l1, v1, fun σ' o l' => k w1 σ' H1 (l1.cut b) g1 l'⟩⟩
    · cases hm
  · cases hm
/-- x, y = a, b -/
def sPar (is : List Nat) (ms : MA) : MS := fun e s => match ms e s with
  | some (ds, s1) => if ds.length = is.length then some (.nx, (is.zip ds).foldl (fun e z => e.set z.1 (some z.2)) e, s1) else none
  | none => none
theorem ns_par2 {x y : Str} {px py pt pt2 : Pos} {kt k2 : Nat} (i j : Nat) (ha : NA X [a, b] ms) (hN : X.N.Nodup) (hij : i ≠ j := by decide) (hc : X.calm = true := by rfl) (hx : X.N[i]? = some x := by rfl) (hy : X.N[j]? = some y := by rfl)
    (hlx : X.env.scope.names.lookup x = some .local := by rfl) (hly : X.env.scope.names.lookup y = some .local := by rfl)
    (hw : swappedStores [.Tuple [.Name x px, .Name y py] kt pt] (.Tuple [a, b] k2 pt2) X.env = pure (some [x, y]) := by rfl) (hs : swapsWithSole [.Tuple [.Name x px, .Name y py] kt pt] (.Tuple [a, b] k2 pt2) pos.line X.env = pure false := by rfl) :
    NS X (.Assign [.Tuple [.Name x px, .Name y py] kt pt] (.Tuple [a, b] k2 pt2) pos) (sPar [i, j] ms) := fun e s fl e' s' bb hm hb => by
  unfold sPar at hm
  split at hm
  · rename_i ds s1 e1
    split at hm
    · rename_i hl
      cases hm
      match ds, hl with
      | [d1, d2], _ =>
        refine Z.PS.imp (ps_par hc hN hx hy hij hlx hly (ha _ _ _ _ e1) hw hs) fun Dn σ H ⟨w, g, l, k⟩ => ⟨w, g, l, fun us w1 H1 l1 g1 v1 => ?_⟩
        obtain ⟨u, v, rfl, h1, h2⟩ := vrs2 v1
        exact ⟨u, v, rfl, k w1 _ H1 (l1.cut bb) g1 (((l.up l1).put i h1).put j h2)⟩
    · cases hm
  · cases hm
theorem vrs3 {B : Ba} {w : W} {us : List V} {d d' d2 : D} (h : VRs B w us [d, d', d2]) : ∃ u v z, us = [u, v, z] ∧ VR B w u d ∧ VR B w v d' ∧ VR B w z d2 := by
  match us, h with
  | [u, v, z], ⟨h1, h2, h3, _⟩ => exact ⟨u, v, z, rfl, h1, h2, h3⟩
theorem ns_par3 {x y z : Str} {px py pz pt pt2 : Pos} {kt k2 : Nat} (i j k : Nat) (ha : NA X [a, b, c] ms) (hN : X.N.Nodup) (hij : i ≠ j := by decide) (hik : i ≠ k := by decide) (hjk : j ≠ k := by decide) (hc : X.calm = true := by rfl) (hx : X.N[i]? = some x := by rfl) (hy : X.N[j]? = some y := by rfl) (hz : X.N[k]? = some z := by rfl)
    (hlx : X.env.scope.names.lookup x = some .local := by rfl) (hly : X.env.scope.names.lookup y = some .local := by rfl) (hlz : X.env.scope.names.lookup z = some .local := by rfl)
    (hw : swappedStores [.Tuple [.Name x px, .Name y py, .Name z pz] kt pt] (.Tuple [a, b, c] k2 pt2) X.env = pure (some [x, y, z]) := by rfl) (hs : swapsWithSole [.Tuple [.Name x px, .Name y py, .Name z pz] kt pt] (.Tuple [a, b, c] k2 pt2) pos.line X.env = pure false := by rfl) :
    NS X (.Assign [.Tuple [.Name x px, .Name y py, .Name z pz] kt pt] (.Tuple [a, b, c] k2 pt2) pos) (sPar [i, j, k] ms) := fun e s fl e' s' bb hm hb => by
  unfold sPar at hm
  split at hm
  · rename_i ds s1 e1
    split at hm
    · rename_i hl
      cases hm
      match ds, hl with
      | [d1, d2, d3], _ =>
        refine Z.PS.imp (ps_par3 hc hN hx hy hz hij hik hjk hlx hly hlz (ha _ _ _ _ e1) hw hs) fun Dn σ H ⟨w, g, l, q⟩ => ⟨w, g, l, fun us w1 H1 l1 g1 v1 => ?_⟩
        obtain ⟨u, v, z, rfl, h1, h2, h3⟩ := vrs3 v1
        exact ⟨u, v, z, rfl, q w1 _ H1 (l1.cut bb) g1 ((((l.up l1).put i h1).put j h2).put k h3)⟩
    · cases hm
  · cases hm

/-- an object of the store changes: what PSet, methods do -/
def putL (s : Sto) (o : D) (i : Int) (d : D) : Option Sto := match o with
  | .r j => match s[j]? with
    | some (.lst ds) => match ixN ds.length i with
      | some k => some (s.set j (.lst (ds.set k d)))
      | none => none
    | _ => none
  | _ => none
theorem chg_lst {B : Ba} {w : W} {s : Sto} {H : Hp} {v : V} {j : Nat} {ds : List D} (g : Ok B w s H) (hv : VR B w v (.r j)) (hs : s[j]? = some (.lst ds)) :
    ∃ a vs, v = .ref a ∧ H a = some (.lst vs) ∧ VRs B w vs ds ∧ ∀ ds' vs', VRs B w vs' ds' → Ok B w (s.set j (.lst ds')) (upd H a (.lst vs')) := by
  obtain ⟨a, h1, rfl⟩ := hv
  obtain ⟨hF, vs, h2, h3⟩ := g.ce _ _ a hs h1
  exact ⟨a, vs, rfl, h2, h3, fun ds' vs' h => g.chg h1 hF ⟨hF, vs', upd_same, h⟩⟩
def sPut (ma mi mv : ME) : MS := fun e s => match mv e s with
  | some (d, s1) => match ma e s1 with
    | some (o, s2) => match mi e s2 with
      | some (.d (.int i), s3) => match putL s3 o i d with
        | some s4 => some (.nx, e, s4)
        | none => none
      | _ => none
    | none => none
  | none => none
theorem ns_put {tpos : Pos} {mi mv : ME} (hv : NE X ex mv) (ha : NE X a ma) (hi : NE X b mi)
    (hsub : ∀ v, assign (.Subscript a b tpos) X.env v = (do
      let ov ← holding [v] (eval a X.env)
      let iv ← holding [v, ov] (eval b X.env)
      standAt tpos
      holding [v, ov, iv] (setItem ov iv v)
      release [v, ov, iv] []) := by intro _; rfl)
    (hs : swapsWithSole [.Subscript a b tpos] ex pos.line X.env = pure false := by rfl) (hw : swappedStores [.Subscript a b tpos] ex X.env = pure none := by rfl) (h1 : (assignEach [.Subscript a b tpos] X.env).map (·.2) = [assign (.Subscript a b tpos) X.env] := by rfl) :
    NS X (.Assign [.Subscript a b tpos] ex pos) (sPut ma mi mv) := fun e s fl e' s' bb hm hb => by
  unfold sPut at hm
  split at hm
  · rename_i d s1 e1
    split at hm
    · rename_i o s2 e2
      split at hm
      · rename_i i s3 e3
        split at hm
        · rename_i s4 e4
          cases hm
          refine Z.PS.imp (ps_asg (hv _ _ _ _ e1) (pg_sub (ha _ _ _ _ e2) (hi _ _ _ _ e3) set_list hsub) hs hw h1) fun Dn σ H ⟨w, g, l, k⟩ => ⟨w, g, l, fun v w1 H1 l1 g1 v1 => ⟨w1, g1, l.up l1, fun u w2 H2 l2 g2 v2 => ⟨w2, g2, (l.up l1).up l2, fun z w3 H3 l3 g3 v3 => ?_⟩⟩⟩
          cases vr_int v3
          unfold putL at e4
          split at e4
          · rename_i j
            split at e4
            · rename_i ds e5
              split at e4
              · rename_i kk e6
                cases e4
                obtain ⟨a, vs, rfl, h4, h5, h6⟩ := chg_lst g3 (v2.up l3) e5
                refine ⟨a, vs, i, kk, rfl, rfl, h4, by rw [h5.len]; exact e6, ?_⟩
                exact k w3 σ _ (((l1.trans l2).trans l3).cut bb) (h6 _ _ (h5.set ((v1.up l2).up l3) kk)) (((l.up l1).up l2).up l3)
              · cases e4
            · cases e4
          · cases e4
        · cases hm
      · cases hm
    · cases hm
  · cases hm
def sAug (i : Nat) (f : FB) (m : ME) : MS := fun e s => match e[i]? with
  | some (some u) => match m e s with
    | some (d, s1) => match f s1 u d with
      | some (z, s2) => some (.nx, e.set i (some z), s2)
      | none => none
    | none => none
  | _ => none
/-- += : a number, a text; a list grows -/
def oIadd : FB := fun s a b => match a, b with
  | .d (.int i), .d (.int j) => some (.d (.int (i + j)), s)
  | .d (.str x), .d (.str y) => if x.length + y.length ≤ lim then some (.d (.str (x ++ y)), s) else none
  | .r j, b => match s[j]? with
    | some (.lst ds) => match asL s b with
      | some es => if ds.length + es.length ≤ lim then some (.r j, s.set j (.lst (ds ++ es))) else none
      | none => none
    | _ => none
  | _, _ => none
end
end N

namespace N
open PySem L2 PyProof.Rows
open Z (Ext dpUp dpsUp dpsLen dpsGet DxO KyD DEn Cl cut offv wipeE)

structure Safe (s s' : Sto) : Prop where
  le : s.length ≤ s'.length
  ce : ∀ (j : Nat) (c : Cell), j < s.length → s'[j]? = some c → s[j]? = some c ∨ c.below s.length
open Classical in
noncomputable def trim (s s' : Sto) : Sto := if Safe s s' then s'.take s.length else s'
/-- .. where slots refer to what is below -/
def LoBelow (n : Nat) (e : Lo) : Prop := ∀ (i j : Nat), e[i]? = some (some (D.r j)) → j < n
open Classical in
noncomputable def trimE (s : Sto) (e : Lo) (s' : Sto) : Sto := if LoBelow s.length e then trim s s' else s'
def wipeN (e : Lo) : List Nat → Lo
  | [] => e
  | v :: vs => (wipeN e vs).set v none
theorem wipeN_len (e : Lo) : ∀ vs : List Nat, (wipeN e vs).length = e.length
  | [] => rfl
  | v :: vs => by unfold wipeN; rw [List.length_set, wipeN_len e vs]
theorem wipeN_get {e : Lo} {i : Nat} {d : D} : ∀ {vs : List Nat}, (wipeN e vs)[i]? = some (some d) → e[i]? = some (some d) ∧ i ∉ vs
  | [], h => ⟨h, by simp⟩
  | v :: vs, h => by
    unfold wipeN at h
    by_cases hi : i = v
    · subst hi
      by_cases hv : i < (wipeN e vs).length
      · rw [List.getElem?_set_self hv] at h
        cases h
      · rw [List.getElem?_eq_none (by simpa using hv)] at h
        cases h
    · rw [List.getElem?_set_ne (Ne.symm hi)] at h
      obtain ⟨z1, z2⟩ := wipeN_get h
      exact ⟨z1, by simp only [List.mem_cons, not_or]; exact ⟨hi, z2⟩⟩
section
variable {B : Ba} {w w' : W} {s s' : Sto} {H H' : Hp} {e : Lo} {σ : L2.St}
theorem Safe.ok (h : Safe s s') (g : Ok B w s H) (g' : Ok B w' s' H') : Ok B (w'.take s.length) (s'.take s.length) H' :=
  g'.cut fun j c hj hc => (h.ce j c hj hc).elim (fun h2 => by
    have hj2 : j < w.ρ.length := by rw [g.lr]; exact hj
    have := (g.ce j c _ h2 (List.getElem?_eq_getElem hj2)).isBelow
    rwa [g.lr] at this) id
theorem trim_cases (g : Ok B w s H) (g' : Ok B w' s' H') : (trim s s' = s' ∧ True) ∨ (trim s s' = s'.take s.length ∧ s.length ≤ s'.length ∧ Ok B (w'.take s.length) (s'.take s.length) H') := by
  unfold trim
  split
  · rename_i h
    exact .inr ⟨rfl, h.le, h.ok g g'⟩
  · exact .inl ⟨rfl, trivial⟩
/-- behind a turn -/
theorem trimE_ok (g : Ok B w s H) (g' : Ok B w' s' H') (l : Sl B w' e σ) : ∃ w2, w2.le w' ∧ (∀ b, b ≤ s.length → (w'.take b).le w2) ∧ Ok B w2 (trimE s e s') H' ∧ Sl B w2 e σ ∧ (s.length ≤ s'.length → s.length ≤ (trimE s e s').length) := by
  unfold trimE
  split
  · rename_i hl
    rcases trim_cases g g' with ⟨h, _⟩ | ⟨h, h1, h2⟩
    · rw [h]
      exact ⟨w', W.le.refl _, fun b hb => W.take_le _ _, g', l, id⟩
    · rw [h]
      refine ⟨w'.take s.length, W.take_le _ _, fun b hb => ⟨Ext.refl _, ?_⟩, h2, l.cut hl, fun _ => by rw [List.length_take]; omega⟩
      show w'.ρ.take b <+: w'.ρ.take s.length
      rw [show w'.ρ.take b = (w'.ρ.take s.length).take b by rw [List.take_take, Nat.min_eq_left hb]]
      exact List.take_prefix _ _
  · exact ⟨w', W.le.refl _, fun b hb => W.take_le _ _, g', l, id⟩
end

/-- the list that is walked stands as it was -/
def chkOk : Option (Nat × List D) → Sto → Prop
  | none, _ => True
  | some (j, ds), s => s[j]? = some (.lst ds)
abbrev MI := Lo → Sto → Option (List D × Option (Nat × List D) × Sto)
def WkN (B : Ba) (w0 : W) (J : It) (items : List D) (ck : Option (Nat × List D)) : Prop := ∀ w s H, w0.le w → Ok B w s H → chkOk ck s →
  (∀ i x, items[i]? = some x → J.go i H ∧ ∀ v H', J.yld i H v H' → ∃ w', w.le w' ∧ Ok B w' s H' ∧ VR B w' v x) ∧ J.stop items.length H
def tI (B : Ba) (e : Lo) (s : Sto) (items : List D) (ck : Option (Nat × List D)) (s1 : Sto) : TI := fun σ H R => ∃ w, Ok B w s H ∧ Sl B w e σ ∧ ∀ J w1 H1, w.le w1 → Ok B w1 s1 H1 → chkOk ck s1 → WkN B w1 J items ck → R J H1
def NI (X : Cx) (tg it : Expr) (m : MI) : Prop := ∀ e s items ck s1, m e s = some (items, ck, s1) → PI X tg it (tI (ba X) e s items ck s1)
section
variable {X : Cx} {ex a b c tg iter elt : Expr} {es ifs : List Expr} {st : Stmt} {rest body orelse : List Stmt} {m ma mb mc : ME} {ms : MA} {mt mu : MT} {pos p : Pos} {M M1 M2 : MS}
theorem PI.imp {t t' : TI} (h : PI X tg ex t) (k : ∀ σ H Q, t' σ H Q → t σ H Q) : PI X tg ex t' := Z.PI.imp h k
theorem NI.fam {mi : MI} (h : NI X tg iter mi) : PI X tg iter (fun σ H R => ∃ e s items ck s1, mi e s = some (items, ck, s1) ∧ tI (ba X) e s items ck s1 σ H R) :=
  ⟨fun pins sh σ H R I ⟨e, s, items, ck, s1, hm, q⟩ => (h e s items ck s1 hm).run pins sh σ H R I q⟩
/-- over a list -/
def iLst (m : ME) : MI := fun e s => match m e s with
  | some (.d (.list xs), s1) => some (xs.map .d, none, s1)
  | some (.r j, s1) => match s1[j]? with
    | some (.lst ds) => some (ds, some (j, ds), s1)
    | _ => none
  | _ => none
theorem ni_lst (h : NE X ex m) : NI X tg ex (iLst m) := fun e s items ck s1 hm => by
  unfold iLst at hm
  split at hm
  · rename_i xs s2 e1
    cases hm
    refine PI.imp (pi_list (h _ _ _ _ e1)) fun σ H R ⟨w, g, l, k⟩ => ⟨w, g, l, fun v w1 H1 l1 g1 v1 => ?_⟩
    cases v1 with
    | @lst a vs _ hs ha =>
      refine ⟨a, rfl, ⟨vs, g1.ext.l hs⟩, k _ w1 H1 l1 g1 trivial fun w2 s2 H2 l2 g2 _ => ?_⟩
      have hs2 : SqL X.K H2 a vs := g2.ext.l (l2.F.l hs)
      refine ⟨fun i x hx => ?_, _, hs2, by rw [List.length_map, dpsLen ha]; exact Nat.le_refl _⟩
      rw [List.getElem?_map] at hx
      obtain ⟨y, hy, rfl⟩ := Option.map_eq_some_iff.mp hx
      obtain ⟨v, h1, h2⟩ := dpsGet ha hy
      refine ⟨⟨_, v, hs2, h1⟩, fun v' H' ⟨e3, hv⟩ => ?_⟩
      subst e3
      have : v = v' := Option.some.inj (h1.symm.trans (hv _ hs2))
      subst this
      exact ⟨w2, W.le.refl _, g2, dpUp l2.F _ _ h2⟩
  · rename_i j s2 e1
    split at hm
    · rename_i ds e2
      cases hm
      refine PI.imp (pi_list (h _ _ _ _ e1)) fun σ H R ⟨w, g, l, k⟩ => ⟨w, g, l, fun v w1 H1 l1 g1 v1 => ?_⟩
      obtain ⟨a, h1, rfl⟩ := v1
      obtain ⟨_, vs, h2, h3⟩ := g1.ce _ _ a e2 h1
      refine ⟨a, rfl, ⟨vs, .of h2⟩, k _ w1 H1 l1 g1 e2 fun w2 s2 H2 l2 g2 c2 => ?_⟩
      obtain ⟨_, us, h4, h5⟩ := g2.ce _ _ a c2 (pre_get l2.ρ h1)
      have hs2 : SqL X.K H2 a us := .of h4
      refine ⟨fun i x hx => ?_, _, hs2, by rw [h5.len]; exact Nat.le_refl _⟩
      obtain ⟨v, h6, h7⟩ := h5.get hx
      refine ⟨⟨_, v, hs2, h6⟩, fun v' H' ⟨e3, hv⟩ => ?_⟩
      subst e3
      have : v = v' := Option.some.inj (h6.symm.trans (hv _ hs2))
      subst this
      exact ⟨w2, W.le.refl _, g2, h7⟩
    · cases hm
  · cases hm
/-- over a tuple -/
def iTupl (m : ME) : MI := fun e s => match m e s with
  | some (.d (.tuple xs), s1) => some (xs.map .d, none, s1)
  | _ => none
theorem ni_tup (h : NE X ex m) : NI X tg ex (iTupl m) := fun e s items ck s1 hm => by
  unfold iTupl at hm
  split at hm
  · rename_i xs s2 e1
    cases hm
    refine PI.imp (pi_tup (h _ _ _ _ e1)) fun σ H R ⟨w, g, l, k⟩ => ⟨w, g, l, fun v w1 H1 l1 g1 v1 => ?_⟩
    obtain ⟨a, vs, rfl, hs, ha⟩ := dp_tup v1
    refine ⟨a, rfl, ⟨vs, g1.ext.t hs⟩, k _ w1 H1 l1 g1 trivial fun w2 s2 H2 l2 g2 _ => ?_⟩
    have hs2 : SqT X.K H2 a vs := g2.ext.t (l2.F.t hs)
    refine ⟨fun i x hx => ?_, _, hs2, by rw [List.length_map, dpsLen ha]; exact Nat.le_refl _⟩
    rw [List.getElem?_map] at hx
    obtain ⟨y, hy, rfl⟩ := Option.map_eq_some_iff.mp hx
    obtain ⟨v, h1, h2⟩ := dpsGet ha hy
    refine ⟨⟨_, v, hs2, h1⟩, fun v' H' ⟨e3, hv⟩ => ?_⟩
    subst e3
    have : v = v' := Option.some.inj (h1.symm.trans (hv _ hs2))
    subst this
    exact ⟨w2, W.le.refl _, g2, dpUp l2.F _ _ h2⟩
  · cases hm
/-- a tuple or a list, as it comes -/
def iSeq (m : ME) : MI := fun e s => match m e s with
  | some (.d (.tuple xs), s1) => some (xs.map .d, none, s1)
  | _ => iLst m e s
theorem ni_seq (h : NE X ex m) : NI X tg ex (iSeq m) := fun e s items ck s1 hm => by
  unfold iSeq at hm
  split at hm
  · rename_i xs s2 e1
    exact ni_tup h e s items ck s1 (by unfold iTupl; rw [e1]; exact hm)
  · exact ni_lst h e s items ck s1 hm
def rngD (lo : Int) (n : Nat) : List D := (List.range n).map fun k => .d (.int (lo + (k : Nat)))
theorem rngD_len {lo : Int} {n : Nat} : (rngD lo n).length = n := by unfold rngD; simp
theorem rngD_get {lo : Int} {n k : Nat} (h : k < n) : (rngD lo n)[k]? = some (.d (.int (lo + (k : Nat)))) := by
  unfold rngD
  rw [List.getElem?_map, List.getElem?_range h]
  rfl
theorem wk_rng {B : Ba} {w0 : W} {lo : Int} {n : Nat} : WkN B w0 (Itr lo n) (rngD lo n) none := fun w s H l g _ => by
  refine ⟨fun k x hx => ?_, Nat.le_of_eq rngD_len.symm⟩
  have hk : k < n := by
    have := (List.getElem?_eq_some_iff.mp hx).1
    rwa [rngD_len] at this
  rw [rngD_get hk] at hx
  cases hx
  refine ⟨hk, fun v H' ⟨e1, e2⟩ => ?_⟩
  subst e1 e2
  exact ⟨w, W.le.refl _, g, vi⟩
def iRng1 (ms : MA) : MI := fun e s => match ms e s with
  | some ([.d (.int j)], s1) => if -(2 ^ 62) ≤ j ∧ j < 2 ^ 62 then some (rngD 0 j.toNat, none, s1) else none
  | _ => none
def iRng2 (ms : MA) : MI := fun e s => match ms e s with
  | some ([.d (.int i), .d (.int j)], s1) => if -(2 ^ 62) ≤ i ∧ i < 2 ^ 62 ∧ -(2 ^ 62) ≤ j ∧ j < 2 ^ 62 then some (rngD i (j - i).toNat, none, s1) else none
  | _ => none
theorem ni_rng1 (h : NA X [a] ms) (hm : X.mg "range" = none) (hg : Gl X "range" := by rfl) (hs : starEach [a] X.env = [(false, eval a X.env)] := by rfl) : NI X tg (.Call (.Name "range" p) [a] [] pos) (iRng1 ms) := fun e s items ck s1 hmm => by
  unfold iRng1 at hmm
  split at hmm
  · rename_i j s2 e1
    split at hmm
    · rename_i hj
      cases hmm
      refine PI.imp (pi_range1 hg hm (h _ _ _ _ e1) hs) fun σ H R ⟨w, g, l, k⟩ => ⟨w, g, l, fun us w1 H1 l1 g1 v1 => ?_⟩
      obtain ⟨u, rfl, h1⟩ := vrs1 v1
      cases vr_int h1
      exact ⟨j, rfl, hj.1, hj.2, k _ w1 H1 l1 g1 trivial wk_rng⟩
    · cases hmm
  · cases hmm
theorem ni_rng2 (h : NA X [a, b] ms) (hm : X.mg "range" = none) (hg : Gl X "range" := by rfl) (hs : starEach [a, b] X.env = [(false, eval a X.env), (false, eval b X.env)] := by rfl)
    (hs2 : starEach [b] X.env = [(false, eval b X.env)] := by rfl) : NI X tg (.Call (.Name "range" p) [a, b] [] pos) (iRng2 ms) := fun e s items ck s1 hmm => by
  unfold iRng2 at hmm
  split at hmm
  · rename_i i j s2 e1
    split at hmm
    · rename_i hj
      cases hmm
      refine PI.imp (pi_range2 hg hm (h _ _ _ _ e1) hs hs2) fun σ H R ⟨w, g, l, k⟩ => ⟨w, g, l, fun us w1 H1 l1 g1 v1 => ?_⟩
      obtain ⟨u, v, rfl, h1, h2⟩ := vrs2 v1
      cases vr_int h1
      cases vr_int h2
      exact ⟨i, j, rfl, hj, k _ w1 H1 l1 g1 trivial wk_rng⟩
    · cases hmm
  · cases hmm

/-- one turn: the target, the block, what is forgotten behind it -/
noncomputable def turnF (g : MG) (M : MS) (dead : List Nat) (x : D) : MS := fun e s => match g x e with
  | some e1 => match M e1 s with
    | some (.nx, e2, s2) => some (.nx, wipeN e2 dead, trimE s (wipeN e2 dead) s2)
    | some (.ct, e2, s2) => some (.nx, wipeN e2 dead, trimE s (wipeN e2 dead) s2)
    | r => r
  | none => none
open Classical in
noncomputable def forL (ck : Option (Nat × List D)) (T : D → MS) : List D → MS
  | [] => fun e s => if chkOk ck s then some (.nx, e, s) else none
  | x :: xs => fun e s => if chkOk ck s then match T x e s with
      | some (.nx, e1, s1) => forL ck T xs e1 s1
      | some (.bk, e1, s1) => some (.nx, e1, s1)
      | some (.rt d, e1, s1) => some (.rt d, e1, s1)
      | _ => none
    else none
noncomputable def sFor (mi : MI) (g : MG) (M : MS) (dead : List Nat) : MS := fun e s => match mi e s with
  | some (items, ck, s1) => forL ck (turnF g M dead) items e s1
  | none => none
theorem W.le.of_take {w w' : W} {n : Nat} (h : (w.take n).le w') (hn : w.ρ.length = n) : w.le w' := by
  refine ⟨h.F, ?_⟩
  have k := h.ρ
  rw [show (w.take n).ρ = w.ρ.take n from rfl, List.take_of_length_le (by omega)] at k
  exact k
theorem W.take_take {w w' : W} {b n : Nat} (h : (w.take n).le w') (hb : b ≤ n) : (w.take b).le w' := by
  refine ⟨h.F, List.IsPrefix.trans ?_ h.ρ⟩
  show w.ρ.take b <+: w.ρ.take n
  rw [show w.ρ.take b = (w.ρ.take n).take b by rw [List.take_take, Nat.min_eq_left hb]]
  exact List.take_prefix _ _
theorem ns_for {mi : MI} {vs : List Nat} {g : MG} {dead : List Nat} (hi : NI X tg iter mi) (hg : NG X tg vs g) (hb : NSs X body M) (hp : PassesOwn (model X.prog X.w) X.A X.env X.xe) (hc : X.calm = true := by rfl) (hs : ∀ x, foldedSetIterable iter X.env x = pure x := by intro _; rfl) :
    NS X (.For tg iter body [] pos) (sFor mi g M dead) := fun e s fl e' s' b hm hbs => by
  unfold sFor at hm
  split at hm
  · rename_i items ck s1 e1
    refine Z.PS.imp (ps_for hp hc (hi _ _ _ _ _ e1) hg.fam hb.fam hs) fun Dn σ H ⟨w, G, l, k⟩ => ⟨w, G, l, fun J w1 H1 l1 g1 ck1 wk => ?_⟩
    have hn : w1.ρ.length = s1.length := g1.lr
    have hbn : b ≤ s1.length := Nat.le_trans hbs (le_len l1 G g1)
    have k1 := k.mono (l1.cut b) (by rw [G.lr]; exact hbs)
    refine ⟨fun i m σ' H' => m = items.length - i ∧ i ≤ items.length ∧ ∃ e2 s2 w2, forL ck (turnF g M dead) (items.drop i) e2 s2 = some (fl, e', s') ∧ w1.le w2 ∧ s1.length ≤ s2.length ∧ Ok (ba X) w2 s2 H' ∧ Sl (ba X) w2 e2 σ',
      ⟨_, rfl, Nat.zero_le _, e, s1, w1, hm, W.le.refl _, Nat.le_refl _, g1, l.up l1⟩, ?_⟩
    rintro i m σ' H' ⟨rfl, hi', e2, s2, w2, hf, l2, n2, g2, sl2⟩
    by_cases hlt : i < items.length
    · rw [List.drop_eq_getElem_cons hlt] at hf
      unfold forL at hf
      split at hf
      · rename_i hck
        obtain ⟨wk1, _⟩ := wk w2 s2 H' l2 g2 hck
        obtain ⟨go, yl⟩ := wk1 i items[i] (List.getElem?_eq_getElem hlt)
        refine .inr ⟨go, fun σ3 H3 => ∃ e3 s3 w3, forL ck (turnF g M dead) (items.drop (i + 1)) e3 s3 = some (fl, e', s') ∧ w1.le w3 ∧ s1.length ≤ s3.length ∧ Ok (ba X) w3 s3 H3 ∧ Sl (ba X) w3 e3 σ3,
          fun σ3 H3 h3 => ⟨items.length - (i + 1), by omega, rfl, hlt, h3⟩, fun v H4 y => ?_⟩
        obtain ⟨w4, l4, g4, v4⟩ := yl v H4 y
        have sl4 := sl2.up l4
        have l14 := l2.trans l4
        have n4 : s1.length ≤ w4.ρ.length := by rw [g4.lr]; exact n2
        -- one turn
        unfold turnF at hf
        cases hgx : g items[i] e2 with
        | none => rw [hgx] at hf; cases hf
        | some e3 =>
          rw [hgx] at hf
          refine ⟨s2, _, _, _, hgx, w4, g4, sl4, v4, fun σ5 o l5 => ?_⟩
          cases hM : M e3 s2 with
          | none => simp only [hM] at hf; cases hf
          | some z =>
            obtain ⟨f2, e5, s5⟩ := z
            simp only [hM] at hf
            refine ⟨_, _, _, _, _, s1.length, hM, n2, w4, g4, l5, ?_⟩
            have back : ∀ {w' : W}, (w4.take s1.length).le w' → w1.le w' := fun h => by
              have h0 : (w1.take s1.length).le w4 := l14.cut _
              exact W.le.of_take (W.cut_trans h0 (by omega) h) hn
            have next : ∀ w' σ' H', (w4.take s1.length).le w' → Ok (ba X) w' s5 H' → Sl (ba X) w' e5 σ' → forL ck (turnF g M dead) (items.drop (i + 1)) (wipeN e5 dead) (trimE s2 (wipeN e5 dead) s5) = some (fl, e', s') →
                ∃ e3 s3 w3, forL ck (turnF g M dead) (items.drop (i + 1)) e3 s3 = some (fl, e', s') ∧ w1.le w3 ∧ s1.length ≤ s3.length ∧ Ok (ba X) w3 s3 H' ∧ Sl (ba X) w3 e3 σ' := fun w' σ' H' lw gw sw hf' => by
              have sw2 : Sl (ba X) w' (wipeN e5 dead) σ' := sw.wk (wipeN_len _ _) fun i d h => (wipeN_get h).1
              obtain ⟨w6, a1, a2, a3, a4, a5⟩ := trimE_ok (s := s2) g4 gw sw2
              refine ⟨_, _, w6, hf', ?_, ?_, a3, a4⟩
              · have h0 : (w1.take s1.length).le w' := (back lw).cut _
                exact W.le.of_take (W.cut_trans h0 (by omega) (a2 _ n2)) hn
              · have h1 := (W.cut_eq lw n4).1
                have h2 := (W.cut_eq (a2 _ n2) h1).1
                rw [a3.lr] at h2
                exact h2
            cases f2 with
            | nx => exact fun w' σ' H' lw gw sw => next w' σ' H' lw gw sw hf
            | ct => exact fun w' σ' H' lw gw sw => next w' σ' H' lw gw sw hf
            | rt d =>
              cases hf
              exact fun w' v H' lw gw vw => k1 w' v H' ((back lw).cut b) gw vw
            | bk =>
              cases hf
              exact fun w' σ' H' lw gw sw => k1 w' σ' H' ((back lw).cut b) gw sw
      · cases hf
    · have e : i = items.length := by omega
      subst e
      rw [List.drop_length] at hf
      unfold forL at hf
      split at hf
      · rename_i hck
        cases hf
        obtain ⟨_, w2'⟩ := wk w2 _ H' l2 g2 hck
        exact .inl ⟨w2', k1 w2 σ' H' (l2.cut b) g2 sl2⟩
      · cases hf
  · cases hm

noncomputable def whileL (mt : MT) (M : MS) (dead : List Nat) : Nat → MS
  | 0 => fun _ _ => none
  | n + 1 => fun e s => match mt e s with
    | some (true, s1) => match M e s1 with
      | some (.nx, e2, s2) => whileL mt M dead n (wipeN e2 dead) (trimE s (wipeN e2 dead) s2)
      | some (.ct, e2, s2) => whileL mt M dead n (wipeN e2 dead) (trimE s (wipeN e2 dead) s2)
      | some (.bk, e2, s2) => some (.nx, e2, s2)
      | some (.rt d, e2, s2) => some (.rt d, e2, s2)
      | none => none
    | some (false, s1) => some (.nx, e, s1)
    | none => none
noncomputable def sWhile (mt : MT) (M : MS) (dead : List Nat) : MS := fun e s => whileL mt M dead (2 ^ 64) e s
theorem ns_while {dead : List Nat} (hc : NT X c mt) (hb : NSs X body M) (hp : PassesOwn (model X.prog X.w) X.A X.env X.xe) : NS X (.While c body [] pos) (sWhile mt M dead) := fun e s fl e' s' b hm hbs => by
  refine Z.PS.imp (ps_while hp hc.fam hb.fam) fun Dn σ H ⟨w, G, l, k⟩ => ?_
  have hn : w.ρ.length = s.length := G.lr
  refine ⟨fun m σ' H' => ∃ e2 s2 w2, whileL mt M dead m e2 s2 = some (fl, e', s') ∧ w.le w2 ∧ s.length ≤ s2.length ∧ Ok (ba X) w2 s2 H' ∧ Sl (ba X) w2 e2 σ',
    ⟨_, e, s, w, hm, W.le.refl _, Nat.le_refl _, G, l⟩, ?_⟩
  rintro m σ' H' ⟨e2, s2, w2, hf, l2, n2, g2, sl2⟩
  cases m with
  | zero => cases hf
  | succ m =>
    unfold whileL at hf
    cases ht : mt e2 s2 with
    | none => rw [ht] at hf; cases hf
    | some z =>
      obtain ⟨kk, s3⟩ := z
      rw [ht] at hf
      refine ⟨e2, s2, kk, s3, ht, w2, g2, sl2, fun w3 H3 l3 g3 => ?_⟩
      have l13 := l2.trans l3
      have sl3 := sl2.up l3
      cases kk with
      | false =>
        dsimp only
        rw [if_neg Bool.false_ne_true]
        cases hf
        exact k w3 σ' H3 (l13.cut b) g3 sl3
      | true =>
        dsimp only
        rw [if_pos rfl]
        have n3 : s.length ≤ s3.length := Nat.le_trans n2 (le_len l3 g2 g3)
        refine ⟨fun σ5 H5 => ∃ e2 s2 w2, whileL mt M dead m e2 s2 = some (fl, e', s') ∧ w.le w2 ∧ s.length ≤ s2.length ∧ Ok (ba X) w2 s2 H5 ∧ Sl (ba X) w2 e2 σ5, fun σ5 H5 h5 => ⟨m, Nat.lt_succ_self m, h5⟩, ?_⟩
        cases hM : M e2 s3 with
        | none => simp only [hM] at hf; cases hf
        | some z =>
          obtain ⟨f2, e5, s5⟩ := z
          simp only [hM] at hf
          refine ⟨_, _, _, _, _, s.length, hM, n3, w3, g3, sl3, ?_⟩
          have n3' : s.length ≤ w3.ρ.length := by rw [g3.lr]; exact n3
          have back : ∀ {w' : W}, (w3.take s.length).le w' → w.le w' := fun h => by
            have h0 : (w.take s.length).le w3 := l13.cut _
            exact W.le.of_take (W.cut_trans h0 (by omega) h) hn
          have next : ∀ w' σ' H', (w3.take s.length).le w' → Ok (ba X) w' s5 H' → Sl (ba X) w' e5 σ' → whileL mt M dead m (wipeN e5 dead) (trimE s2 (wipeN e5 dead) s5) = some (fl, e', s') →
              ∃ e2 s2 w2, whileL mt M dead m e2 s2 = some (fl, e', s') ∧ w.le w2 ∧ s.length ≤ s2.length ∧ Ok (ba X) w2 s2 H' ∧ Sl (ba X) w2 e2 σ' := fun w' σ' H' lw gw sw hf' => by
            have sw2 : Sl (ba X) w' (wipeN e5 dead) σ' := sw.wk (wipeN_len _ _) fun i d h => (wipeN_get h).1
            obtain ⟨w6, a1, a2, a3, a4, a5⟩ := trimE_ok (s := s2) g2 gw sw2
            refine ⟨_, _, w6, hf', ?_, ?_, a3, a4⟩
            · have h0 : (w.take s.length).le w' := (back lw).cut _
              exact W.le.of_take (W.cut_trans h0 (by omega) (a2 _ n2)) hn
            · have h1 := (W.cut_eq lw n3').1
              have h2 := (W.cut_eq (a2 _ n2) h1).1
              rw [a3.lr] at h2
              exact h2
          cases f2 with
          | nx => exact fun w' σ' H' lw gw sw => next w' σ' H' lw gw sw hf
          | ct => exact fun w' σ' H' lw gw sw => next w' σ' H' lw gw sw hf
          | rt d =>
            cases hf
            exact fun w' v H' lw gw vw => k w' v H' ((back lw).cut b) gw vw
          | bk =>
            cases hf
            exact fun w' σ' H' lw gw sw => k w' σ' H' ((back lw).cut b) gw sw
end
end N

namespace N
open PySem L2 PyProof.Rows
open Z (Ext dpUp dpsUp dpsLen dpsGet DxO KyD DEn Cl cut offv bl Dfn)

open Classical in
noncomputable def lcL (k : Nat) (ck : Option (Nat × List D)) (g : MG) (mt : MT) (el : ME) (e0 : Lo) : List D → Sto → Option Sto
  | [], s => if chkOk ck s then some s else none
  | x :: xs, s => if chkOk ck s then match g x e0 with
      | some e1 => match mt e1 s with
        | some (true, s1) => match el e1 s1 with
          | some (y, s2) => match s2[k]? with
            | some (.lst acc) => if acc.length < lim then lcL k ck g mt el e0 xs (s2.set k (.lst (acc ++ [y]))) else none
            | _ => none
          | none => none
        | some (false, s1) => lcL k ck g mt el e0 xs s1
        | none => none
      | none => none
    else none
noncomputable def lcFin (own : Bool) (s1 s2 : Sto) : Option (D × Sto) := match s2[s1.length]? with
  | some (.lst ds) => if own then some (.r s1.length, s2) else match data ds with
    | some xs => some (.d (.list xs), trim s1 (s2.set s1.length .gone))
    | none => none
  | _ => none
noncomputable def eLc (own : Bool) (vs : List Nat) (mi : MI) (g : MG) (mt : MT) (el : ME) : ME := fun e s => match mi e s with
  | some (items, ck, s1) => match lcL s1.length ck g mt el (wipeN e vs) items (s1 ++ [.lst []]) with
    | some s2 => lcFin own s1 s2
    | none => none
  | none => none
def tTrue : MT := fun _ s => some (true, s)
def NTs (X : Cx) (ifs : List Expr) (m : MT) : Prop := ∀ e s b s', m e s = some (b, s') → PTs X ifs (tT (ba X) e s b s')
theorem nts_nil {X : Cx} : NTs X [] tTrue := fun e s b s' h => by
  cases h
  exact ⟨fun pins sh σ H Q I ⟨w, g, l, q⟩ => pts_nil.run pins sh σ H Q I (q w H (W.le.refl w) g)⟩
theorem nts_one {X : Cx} {c : Expr} {m : MT} (h : NT X c m) : NTs X [c] m := fun e s b s' hm => pts_one (h _ _ _ _ hm)
section
variable {B : Ba} {w w' : W} {s s' : Sto} {H H' : Hp} {e : Lo} {σ : L2.St}
theorem Sl.wipe (h : Sl B w e σ) (vs : List Nat) : Sl B w (wipeN e vs) (L2.wipe σ vs) := ⟨by rw [wipeN_len, wipe_length]; exact h.le, fun i d q => by
  obtain ⟨z1, z2⟩ := wipeN_get q
  obtain ⟨v, h1, h2⟩ := h.sl i d z1
  exact ⟨v, by rw [Z.wipe_keep z2]; exact h1, h2⟩⟩
theorem mkFin_ok {own : Bool} {s1 s2 : Sto} {w1 w2 : W} {H1 H2 : Hp} {d : D} {p : Addr} (h : lcFin own s1 s2 = some (d, s')) (g1 : Ok B w1 s1 H1) (l : w1.le w2) (hp : w2.ρ[s1.length]? = some p) (g2 : Ok B w2 s2 H2) : ∃ w3, w1.le w3 ∧ Ok B w3 s' H2 ∧ VR B w3 (.ref p) d := by
  unfold lcFin at h
  split at h
  · rename_i ds e1
    split at h
    · cases h
      exact ⟨w2, l, g2, p, hp, rfl⟩
    · split at h
      · rename_i xs e2
        cases h
        rw [data_eq e2] at e1
        obtain ⟨w3, l3, g3, d3⟩ := g2.freeze e1 hp
        rcases trim_cases g1 g3 with ⟨h, _⟩ | ⟨h, h1, h2⟩
        · rw [h]
          exact ⟨w3, l.trans l3, g3, d3⟩
        · rw [h]
          refine ⟨w3.take s1.length, ⟨(l.trans l3).F, ?_⟩, h2, d3⟩
          obtain ⟨m, hm⟩ := (l.trans l3).ρ
          show w1.ρ <+: w3.ρ.take s1.length
          rw [← hm, ← g1.lr, List.take_append_of_le_length (Nat.le_refl _), List.take_length]
          exact List.prefix_rfl
      · cases h
  · cases h
end
section
variable {X : Cx} {ex a b c tg iter elt : Expr} {es ifs : List Expr} {st : Stmt} {rest body orelse : List Stmt} {m ma mb mc : ME} {ms : MA} {mt mu : MT} {pos p : Pos} {M M1 M2 : MS}
theorem lc_run {mi : MI} {g : MG} {el : ME} {own : Bool} {vs : List Nat} {e : Lo} {s s' : Sto} {d : D} (h : eLc own vs mi g mt el e s = some (d, s')) {wi : TI} (hw : ∀ items ck s1 σ H R, mi e s = some (items, ck, s1) → tI (ba X) e s items ck s1 σ H R → wi σ H R)
    {G : TG} {TT' : TT} {EE : TE} (hG : ∀ s d e e' v σ H Q, g d e = some e' → tG (ba X) vs s d e e' v σ H Q → G v σ H Q) (hT : ∀ e s b s' σ H Q, mt e s = some (b, s') → tT (ba X) e s b s' σ H Q → TT' σ H Q) (hE : ∀ e s d s' σ H Q, el e s = some (d, s') → tE (ba X) e s d s' σ H Q → EE σ H Q) :
    ∀ σ H Q, tE (ba X) e s d s' σ H Q → tLc wi G TT' EE vs σ H Q := by
  intro σ H Q ⟨w, g0, l, k⟩
  unfold eLc at h
  split at h
  · rename_i items ck s1 e1
    split at h
    · rename_i sF eF
      refine hw _ _ _ _ _ _ e1 ⟨w, g0, l, fun J w1 H1 l1 g1 ck1 wk D hD => ?_⟩
      have gD : Ok (ba X) ⟨w1.F, w1.ρ ++ [D]⟩ (s1 ++ [.lst []]) (upd H1 D (.lst [])) := g1.new hD ⟨ext_none g1.ext hD, [], upd_same, trivial⟩
      have lD : w1.le ⟨w1.F, w1.ρ ++ [D]⟩ := Ok.new_le
      have atD : (w1.ρ ++ [D])[s1.length]? = some D := by rw [← g1.lr, List.getElem?_append_right (Nat.le_refl _), Nat.sub_self]; rfl
      refine ⟨fun i m H' => m = items.length - i ∧ i ≤ items.length ∧ ∃ s2 w2, lcL s1.length ck g mt el (wipeN e vs) (items.drop i) s2 = some sF ∧ W.le ⟨w1.F, w1.ρ ++ [D]⟩ w2 ∧ Ok (ba X) w2 s2 H', ⟨_, rfl, Nat.zero_le _, _, _, eF, W.le.refl _, gD⟩, ?_⟩
      rintro i m H' ⟨rfl, hi', s2, w2, hf, l2, g2⟩
      have slw : ∀ {w' : W}, W.le ⟨w1.F, w1.ρ ++ [D]⟩ w' → Sl (ba X) w' (wipeN e vs) (wipe σ vs) := fun h => (l.up ((l1.trans lD).trans h)).wipe vs
      by_cases hlt : i < items.length
      · rw [List.drop_eq_getElem_cons hlt] at hf
        unfold lcL at hf
        split at hf
        · rename_i hck
          obtain ⟨wk1, _⟩ := wk w2 s2 H' (lD.trans l2) g2 hck
          obtain ⟨go, yl⟩ := wk1 i items[i] (List.getElem?_eq_getElem hlt)
          refine .inr ⟨go, fun H3 => ∃ s3 w3, lcL s1.length ck g mt el (wipeN e vs) (items.drop (i + 1)) s3 = some sF ∧ W.le ⟨w1.F, w1.ρ ++ [D]⟩ w3 ∧ Ok (ba X) w3 s3 H3, fun H3 h3 => ⟨items.length - (i + 1), by omega, rfl, hlt, h3⟩, fun v H4 y => ?_⟩
          obtain ⟨w4, l4, g4, v4⟩ := yl v H4 y
          cases hgx : g items[i] (wipeN e vs) with
          | none => rw [hgx] at hf; cases hf
          | some e3 =>
            rw [hgx] at hf
            refine hG _ _ _ _ _ _ _ _ hgx ⟨w4, g4, slw (l2.trans l4), v4, fun σ5 o l5 => ⟨Z.wipe_off o, ?_⟩⟩
            cases hM : mt e3 s2 with
            | none => simp only [hM] at hf; cases hf
            | some z =>
              obtain ⟨bb, s5⟩ := z
              simp only [hM] at hf
              refine hT _ _ _ _ _ _ _ hM ⟨w4, g4, l5, fun w6 H6 l6 g6 => ?_⟩
              cases bb with
              | false =>
                dsimp only
                rw [if_neg Bool.false_ne_true]
                exact ⟨s5, w6, hf, (l2.trans l4).trans l6, g6⟩
              | true =>
                dsimp only
                rw [if_pos rfl]
                cases hE2 : el e3 s5 with
                | none => simp only [hE2] at hf; cases hf
                | some z =>
                  obtain ⟨yd, s7⟩ := z
                  simp only [hE2] at hf
                  refine hE _ _ _ _ _ _ _ hE2 ⟨w6, g6, l5.up l6, fun u w8 H8 l8 g8 v8 => ?_⟩
                  have l18 := ((l2.trans l4).trans l6).trans l8
                  have at8 : w8.ρ[s1.length]? = some D := pre_get l18.ρ atD
                  split at hf
                  · rename_i acc e8
                    split at hf
                    · rename_i hl
                      obtain ⟨a9, vs9, q1, q2, q3, q4⟩ := chg_lst (v := .ref D) g8 ⟨D, at8, rfl⟩ e8
                      cases q1
                      exact ⟨vs9, q2, by rw [q3.len]; exact Nat.lt_trans hl lim_lt, _, w8, hf, l18, q4 _ _ (q3.app ⟨v8, trivial⟩)⟩
                    · cases hf
                  · cases hf
        · cases hf
      · have e' : i = items.length := by omega
        subst e'
        rw [List.drop_length] at hf
        unfold lcL at hf
        split at hf
        · rename_i hck
          cases hf
          obtain ⟨_, st⟩ := wk w2 _ H' (lD.trans l2) g2 hck
          obtain ⟨w3, a1, a2, a3⟩ := mkFin_ok h g1 (lD.trans l2) (pre_get l2.ρ atD) g2
          exact .inl ⟨st, k _ w3 H' (l1.trans a1) a2 a3⟩
        · cases hf
    · cases h
  · cases h
section
variable {scope : Scope} {own : List (Str × Nat)} {ow : Bool} {vs : List Nat} {mi : MI} {g : MG} {el : ME}
theorem n_lc (hi : NI X tg iter mi) (hg : ∀ z, NG (bl X scope z) tg vs g) (ht : ∀ z, NTs (bl X scope z) ifs mt) (he : ∀ z, NE (bl X scope z) elt el) (hN : X.N.Nodup) (ok : BlkOk X.N X.env.scope scope own) (hvs : own.map (·.2) = vs := by rfl) (hc : X.calm = true := by rfl) (hs : ∀ x, foldedSetIterable iter X.env x = pure x := by intro _; rfl) :
    NE X (.ListComp elt [⟨tg, iter, ifs, 0⟩] scope pos) (eLc ow vs mi g mt el) := fun e s d s' h => by
  subst hvs
  refine PE.imp (pe_lc hc hN hi.fam ok (fun sh H C cl fp => (show PG (X.blk sh H scope (compEnvC scope cl C X.env) fp) tg (fun v σ H Q => ∃ s d e e', g d e = some e' ∧ tG (ba X) (own.map (·.2)) s d e e' v σ H Q) from (hg (sh, H, C, cl, fp)).fam)) (fun sh H C cl fp => (⟨fun pins sh' σ H' Q I ⟨e, s, b, s', hm, q⟩ => (ht (sh, H, C, cl, fp) e s b s' hm).run pins sh' σ H' Q I q⟩ : PTs _ ifs (fun σ H Q => ∃ e s b s', mt e s = some (b, s') ∧ tT (ba X) e s b s' σ H Q))) (fun sh H C cl fp => (show PE (X.blk sh H scope (compEnvC scope cl C X.env) fp) elt (fun σ H Q => ∃ e s d s', el e s = some (d, s') ∧ tE (ba X) e s d s' σ H Q) from (he (sh, H, C, cl, fp)).fam)) hs) ?_
  exact lc_run h (fun items ck s1 σ H R h1 h2 => ⟨e, s, items, ck, s1, h1, h2⟩) (fun s d e e' v σ H Q h1 h2 => ⟨s, d, e, e', h1, h2⟩) (fun e s b s' σ H Q h1 h2 => ⟨e, s, b, s', h1, h2⟩) (fun e s d s' σ H Q h1 h2 => ⟨e, s, d, s', h1, h2⟩)
/-- name = [..] -/
theorem ns_setLc {y : Str} {py spos : Pos} (i : Nat) (hi : NI X tg iter mi) (hg : ∀ z, NG (bl X scope z) tg vs g) (ht : ∀ z, NTs (bl X scope z) ifs mt) (he : ∀ z, NE (bl X scope z) elt el) (hN : X.N.Nodup) (ok : BlkOk X.N X.env.scope scope own) (hvs : own.map (·.2) = vs := by rfl) (hc : X.calm = true := by rfl) (hs : ∀ x, foldedSetIterable iter X.env x = pure x := by intro _; rfl)
    (hy : X.N[i]? = some y := by rfl) (hyl : X.env.scope.names.lookup y = some .local := by rfl) (hsw : swapsWith (.ListComp elt [⟨tg, iter, ifs, 0⟩] scope pos) (some (.Name y py)) spos.line X.env = pure true := by rfl) :
    NS X (.Assign [.Name y py] (.ListComp elt [⟨tg, iter, ifs, 0⟩] scope pos) spos) (sSet i (eLc ow vs mi g mt el)) := fun e s fl e' s' b hm hb => by
  subst hvs
  unfold sSet at hm
  split at hm
  · rename_i d s1 h
    cases hm
    refine Z.PS.imp (ps_setLc hc hN hy hyl hsw hi.fam ok (fun sh H C cl fp => (show PG (X.blk sh H scope (compEnvC scope cl C X.env) fp) tg (fun v σ H Q => ∃ s d e e', g d e = some e' ∧ tG (ba X) (own.map (·.2)) s d e e' v σ H Q) from (hg (sh, H, C, cl, fp)).fam)) (fun sh H C cl fp => (⟨fun pins sh' σ H' Q I ⟨e, s, b, s', hm, q⟩ => (ht (sh, H, C, cl, fp) e s b s' hm).run pins sh' σ H' Q I q⟩ : PTs _ ifs (fun σ H Q => ∃ e s b s', mt e s = some (b, s') ∧ tT (ba X) e s b s' σ H Q))) (fun sh H C cl fp => (show PE (X.blk sh H scope (compEnvC scope cl C X.env) fp) elt (fun σ H Q => ∃ e s d s', el e s = some (d, s') ∧ tE (ba X) e s d s' σ H Q) from (he (sh, H, C, cl, fp)).fam)) hs) fun Dn σ H ⟨w, G, l, k⟩ => ?_
    refine lc_run h (fun items ck s1 σ H R h1 h2 => ⟨e, s, items, ck, s1, h1, h2⟩) (fun s d e e' v σ H Q h1 h2 => ⟨s, d, e, e', h1, h2⟩) (fun e s b s' σ H Q h1 h2 => ⟨e, s, b, s', h1, h2⟩) (fun e s d s' σ H Q h1 h2 => ⟨e, s, d, s', h1, h2⟩) σ H _ ⟨w, G, l, fun v w1 H1 l1 g1 v1 => ?_⟩
    exact k w1 _ H1 (l1.cut b) g1 ((l.up l1).put i v1)
  · cases hm
end

/-- what a call leaves: the store cut back; a list of one's own becomes a datum -/
noncomputable def ret (own : Bool) (s : Sto) (d : D) (s' : Sto) : Option (D × Sto) := match d with
  | .d x => some (.d x, trim s s')
  | .r j => if j < s.length then some (.r j, trim s s') else if own then some (.r j, s') else match s'[j]? with
    | some (.lst ds) => match data ds with
      | some xs => some (.d (.list xs), trim s (s'.set j .gone))
      | none => some (.r j, s')
    | _ => some (.r j, s')
noncomputable def fnR (np n : Nat) (own : Bool) (M : MS) : FA := fun s ds => if ds.length = np then match M (ds.map some ++ List.replicate (n - np) none) s with
  | some (.rt d, _, s') => ret own s d s'
  | some (.nx, _, s') => ret own s (.d .none) s'
  | _ => none
  else none
def spN (B : Ba) (F : FA) : Sp := fun vs H Q _ => ∃ w ds s d s', Ok B w s H ∧ VRs B w vs ds ∧ F s ds = some (d, s') ∧ ∀ v w' H', w.le w' → Ok B w' s' H' → VR B w' v d → Q v H'
theorem ret_ok {B : Ba} {own : Bool} {w w' : W} {s s1 s' : Sto} {H H' : Hp} {d0 d : D} {v : V} (h : ret own s d0 s1 = some (d, s')) (g : Ok B w s H) (l : w.le w') (g' : Ok B w' s1 H') (hv : VR B w' v d0) : ∃ w2, w.le w2 ∧ Ok B w2 s' H' ∧ VR B w2 v d := by
  have cutw : ∀ {w3 : W}, w.le w3 → w.le (w3.take s.length) := fun {w3} l3 => ⟨l3.F, by
    obtain ⟨m, hm⟩ := l3.ρ
    show w.ρ <+: w3.ρ.take s.length
    rw [← hm, ← g.lr, List.take_append_of_le_length (Nat.le_refl _), List.take_length]
    exact List.prefix_rfl⟩
  unfold ret at h
  split at h
  · rename_i x
    cases h
    rcases trim_cases g g' with ⟨h, _⟩ | ⟨h, h1, h2⟩
    · rw [h]; exact ⟨w', l, g', hv⟩
    · rw [h]; exact ⟨_, cutw l, h2, hv⟩
  · rename_i j
    split at h
    · rename_i hj
      cases h
      rcases trim_cases g g' with ⟨h, _⟩ | ⟨h, h1, h2⟩
      · rw [h]; exact ⟨w', l, g', hv⟩
      · rw [h]; exact ⟨_, cutw l, h2, hv.cut fun k e => by cases e; exact hj⟩
    · split at h
      · cases h
        exact ⟨w', l, g', hv⟩
      · split at h
        · rename_i ds e1
          split at h
          · rename_i xs e2
            cases h
            rw [data_eq e2] at e1
            obtain ⟨a, h1, rfl⟩ := hv
            obtain ⟨w3, l3, g3, d3⟩ := g'.freeze e1 h1
            rcases trim_cases g g3 with ⟨h, _⟩ | ⟨h, h1, h2⟩
            · rw [h]; exact ⟨w3, l.trans l3, g3, d3⟩
            · rw [h]; exact ⟨_, cutw (l.trans l3), h2, d3⟩
          · cases h
            exact ⟨w', l, g', hv⟩
        · cases h
          exact ⟨w', l, g', hv⟩
/-- a def that may be called by its name -/
structure Fn (P : Program) (w : World) (K : PySem.W.Frag) (mg : Str → Option Value) (base : Heap) (k : Nat) (x : Str) (F : FA) : Prop where
  ex : ∃ (f : Addr) (fd : FuncData) (ps : List Str), FnOk P w K mg base CX0 k f fd ps (spN ⟨P, w, K⟩ F) ∧ mg x = some (.ref f) ∧ PySem.W.keepIn K (.ref f) = true ∧ Binds K fd ps []
theorem VRs.start {B : Ba} {w : W} : ∀ {vs : List V} {ds : List D} (n : Nat), VRs B w vs ds → Sl B w (ds.map some ++ List.replicate n none) (vs.map some ++ List.replicate n none) := fun {vs ds} n h => ⟨by simp [h.len], fun i d q => by
  by_cases hi : i < (ds.map some).length
  · rw [List.getElem?_append_left hi, List.getElem?_map] at q
    obtain ⟨d', h1, h2⟩ := Option.map_eq_some_iff.mp q
    cases h2
    obtain ⟨v, h3, h4⟩ := h.get h1
    exact ⟨v, by rw [List.getElem?_append_left (by rw [List.length_map, h.len]; simpa using hi), List.getElem?_map, h3]; rfl, h4⟩
  · rw [List.getElem?_append_right (by omega), List.getElem?_replicate] at q
    split at q <;> cases q⟩
theorem nfun {P : Program} {w : World} {K : PySem.W.Frag} {mg : Str → Option Value} {base : Heap} {x : Str} {st : Stmt} {ps N : List Str} {k : Nat} {own : Bool} {M : MS} (DD : Dfn K mg x st ps) (S : FnScope N ps (defScope st))
    (body : ∀ (f : Addr) (cdv : Value) (A : Around) (outer : List Env) (s : Shared) (H : Hp) (E : XK), Room k (A.deeper (envOfC x (defScope st) s.heap.objs.size f cdv)) →
      NSs (cxOf CX0 P w K mg base N x (defScope st) f cdv A outer s H E).nox (defBody st) M) : Fn P w K mg base (k + 1) x (fnR ps.length N.length own M) := by
  obtain ⟨f, fd, F, hm, hb⟩ := DD.ex
  have len : ∀ {s : Sto} {ds : List D} {d : D} {s' : Sto}, fnR ps.length N.length own M s ds = some (d, s') → ds.length = ps.length := fun {s ds d s'} h => by
    unfold fnR at h
    split at h
    · assumption
    · cases h
  refine ⟨f, fd, ps, F.ok S (fun vs H Q E ⟨w, ds, s, d, s', g, hv, h, _⟩ => by rw [hv.len]; exact len h) (fun cdv A outer sh H vs Q E hr ⟨w, ds, s, d, s', g, hv, h, k⟩ => ?_), hm, F.kp, hb⟩
  have hl := len h
  have go : ∀ fl e1 s1 d0, M (ds.map some ++ List.replicate (N.length - ps.length) none) s = some (fl, e1, s1) → ret own s d0 s1 = some (d, s') → (fl = .rt d0 ∨ (fl = .nx ∧ d0 = .d .none)) → ∃ t, PSs (cxOf CX0 P _ K mg base N x (defScope st) f cdv A outer sh H E).nox (defBody st) t ∧ t { nx := fun _ H' => Q .non H', rt := Q } (start N vs) H := fun fl e1 s1 d0 h1 h2 h3 => by
    refine ⟨_, body f cdv A outer sh H E hr _ _ _ _ _ s.length h1 (Nat.le_refl _), w, g, ?_, ?_⟩
    · show Sl _ w _ (vs.map some ++ List.replicate (N.length - vs.length) none)
      rw [hv.len, hl]
      exact VRs.start _ hv
    · rcases h3 with rfl | ⟨rfl, rfl⟩
      · exact fun w' v H' l g' v' => by
          obtain ⟨w2, l2, g2, v2⟩ := ret_ok h2 g (W.le.of_take l g.lr) g' v'
          exact k v w2 H' l2 g2 v2
      · exact fun w' σ' H' l g' sl => by
          obtain ⟨w2, l2, g2, v2⟩ := ret_ok h2 g (W.le.of_take l g.lr) g' vn
          exact k .non w2 H' l2 g2 v2
  unfold fnR at h
  rw [if_pos hl] at h
  split at h
  · rename_i d0 e1 s1 e0
    exact go _ _ _ _ e0 h (.inl rfl)
  · rename_i e1 s1 e0
    exact go _ _ _ _ e0 h (.inr ⟨rfl, rfl⟩)
  · cases h
/-- nothing is promised -/
theorem nfun_none {P : Program} {w : World} {K : PySem.W.Frag} {mg : Str → Option Value} {base : Heap} {x : Str} {st : Stmt} {ps N : List Str} {k : Nat} (DD : Dfn K mg x st ps) (S : FnScope N ps (defScope st)) : Fn P w K mg base (k + 1) x (fun _ _ => none) := by
  obtain ⟨f, fd, F, hm, hb⟩ := DD.ex
  exact ⟨f, fd, ps, F.ok S (fun vs H Q E ⟨w, ds, s, d, s', g, hv, h, _⟩ => by cases h) (fun cdv A outer sh H vs Q E hr ⟨w, ds, s, d, s', g, hv, h, k⟩ => by cases h), hm, F.kp, hb⟩
theorem Fn.mono {P : Program} {w : World} {K : PySem.W.Frag} {mg : Str → Option Value} {base : Heap} {x : Str} {F : FA} {k j : Nat} (c : Fn P w K mg base k x F) (h : k ≤ j) : Fn P w K mg base j x F := let ⟨f, fd, ps, F, r⟩ := c.ex; ⟨f, fd, ps, F.mono h, r⟩
theorem n_call {F : FA} {x : Str} {k j : Nat} (c : Fn X.prog X.w X.K X.mg X.base k x F) (ha : NA X (ex :: es) ms) (hr : Room j X.A) (hk : k ≤ j := by omega) (cl : Cl X x ex es pos := by exact ⟨rfl, rfl, rfl⟩) (hdb : (x == ("__debug__" : Str)) = false := by decide) : NE X (.Call (.Name x p) (ex :: es) [] pos) (eCall F ms) := fun e s z s' h => by
  obtain ⟨ds, s1, e1, e2⟩ := call_cases h
  obtain ⟨f, fd, ps, FF, hm, kp, b⟩ := c.ex
  refine PE.imp (pe_call FF (hr.mono hk) cl.1 hm kp b .nil pass0 (ha _ _ _ _ e1) hdb cl.2.1 cl.2.2) fun σ H Q ⟨w, g, l, q⟩ => ⟨w, g, l, fun vs w1 H1 l1 g1 v1 => ?_⟩
  show spN _ F (vs ++ []) H1 Q E0
  rw [List.append_nil]
  exact ⟨w1, ds, s1, z, s', g1, v1, e2, fun v w2 H2 l2 g2 v2 => q v w2 H2 (l1.trans l2) g2 v2⟩
end
end N

namespace N
open PySem L2 PyProof.Rows
open Z (Ext dpUp dpsUp dpsLen dpsGet DxO KyD DEn Cl cut offv bl Dfn)
section
variable {X : Cx} {ex a b c tg iter elt : Expr} {es ifs : List Expr} {st : Stmt} {rest body orelse : List Stmt} {m ma mb mc : ME} {ms : MA} {mt mu : MT} {pos p : Pos} {M M1 M2 : MS}

/-- a method of a list of the store: what it does to the list, what it answers -/
abbrev FM := Sto → List D → List D → Option (List D × D)
def eMeth (f : FM) (ma : ME) (ms : MA) : ME := fun e s => match ma e s with
  | some (.r j, s1) => match s1[j]? with
    | some (.lst _) => match ms e s1 with
      | some (ds, s2) => match s2[j]? with
        | some (.lst xs) => match f s2 xs ds with
          | some (ys, z) => some (z, s2.set j (.lst ys))
          | none => none
        | _ => none
      | none => none
    | _ => none
  | _ => none
def MetS (X : Cx) (id : String) (f : FM) : Prop := ∀ s xs ds ys z, f s xs ds = some (ys, z) → ∃ q, MtR X id q ∧ ∀ p vs us w H (Q : VK), Ok (ba X) w s H → H p = some (.lst vs) → VRs (ba X) w vs xs → VRs (ba X) w us ds → (∀ vs' v, VRs (ba X) w vs' ys → VR (ba X) w v z → Q v (upd H p (.lst vs'))) → q (.ref p) us H Q
theorem meth_cases {f : FM} {e : Lo} {s s' : Sto} {z : D} (h : eMeth f ma ms e s = some (z, s')) : ∃ j s1 x1 ds s2 xs ys, ma e s = some (.r j, s1) ∧ s1[j]? = some (.lst x1) ∧ ms e s1 = some (ds, s2) ∧ s2[j]? = some (.lst xs) ∧ f s2 xs ds = some (ys, z) ∧ s' = s2.set j (.lst ys) := by
  unfold eMeth at h
  split at h
  · rename_i j s1 e1
    split at h
    · rename_i x1 e2
      split at h
      · rename_i ds s2 e3
        split at h
        · rename_i xs e4
          split at h
          · rename_i ys zz e5
            cases h
            exact ⟨j, s1, x1, ds, s2, xs, ys, e1, e2, e3, e4, e5, rfl⟩
          · cases h
        · cases h
      · cases h
    · cases h
  · cases h
theorem n_meth {f : FM} {id : String} {name : Str} {apos : Pos} (hf : MetS X id f) (ha : NE X a ma) (hs : NA X (ex :: es) ms) (slot : Slot "list" name id) (hty : typeOf (.builtin id) = pure (.type "method_descriptor"))
    (hbase : attributeBase a name X.env (eval a X.env) = eval a X.env := by rfl)
    (hfew : ((backTo pos (starEach (ex :: es) X.env)).all (fun x => !x.1) && (backToKw pos (keywordEach [] X.env)).all (fun x => x.1.isSome)
      && decide ((ex :: es).length + ([] : List Keyword).length + (if ([] : List Keyword).isEmpty then 0 else 1) < 30)) = true := by rfl)
    (hline : (apos.endLine == pos.line) = true := by rfl) (hst : starEach (ex :: es) X.env = (false, eval ex X.env) :: starEach es X.env := by rfl) (hplain : (backTo pos (starEach es X.env)).any (·.1) = false := by rfl) :
    NE X (.Call (.Attribute a name apos) (ex :: es) [] pos) (eMeth f ma ms) := fun e s z s' h => by
  obtain ⟨j, s1, x1, ds, s2, xs, ys, e1, e2, e3, e4, e5, rfl⟩ := meth_cases h
  obtain ⟨q, hq, run⟩ := hf _ _ _ _ _ e5
  refine PE.imp (pe_bm PySem.F.plainAttrs_list slot hty hq (ha _ _ _ _ e1) (hs _ _ _ _ e3) hbase hfew hline hst hplain) fun σ H Q ⟨w, g, l, k⟩ => ⟨w, g, l, fun v w1 H1 l1 g1 v1 => ?_⟩
  obtain ⟨p1, vs1, rfl, h1, _, _⟩ := chg_lst g1 v1 e2
  refine ⟨.inl ⟨rfl, vs1, .of h1⟩, w1, g1, l.up l1, fun us w2 H2 l2 g2 v2 => ?_⟩
  obtain ⟨p2, vs2, ep, h2, h3, h4⟩ := chg_lst g2 (v1.up l2) e4
  cases ep
  exact run _ vs2 us w2 H2 Q g2 h2 h3 v2 fun vs' v hv' hv => k v w2 _ (l1.trans l2) (h4 _ _ hv') hv
def fApp : FM := fun _ xs ds => match ds with
  | [d] => if xs.length < lim then some (xs ++ [d], .d .none) else none
  | _ => none
theorem f_app : MetS X "list.append" fApp := fun s xs ds ys z h => by
  unfold fApp at h
  split at h
  · rename_i d
    split at h
    · rename_i hl
      cases h
      refine ⟨_, mt_append, fun p vs us w H Q g hp hv hu k => ?_⟩
      obtain ⟨u, rfl, hu1⟩ := vrs1 hu
      exact ⟨p, vs, u, rfl, rfl, hp, by rw [hv.len]; exact Nat.lt_trans hl lim_lt, k _ _ (hv.app ⟨hu1, trivial⟩) vn⟩
    · cases h
  · cases h
def fExt : FM := fun s xs ds => match ds with
  | [d] => match asL s d with
    | some es => if xs.length + es.length ≤ lim then some (xs ++ es, .d .none) else none
    | none => none
  | _ => none
theorem f_ext : MetS X "list.extend" fExt := fun s xs ds ys z h => by
  unfold fExt at h
  split at h
  · rename_i d
    split at h
    · rename_i es e1
      split at h
      · rename_i hl
        cases h
        refine ⟨_, Z.mt_extQ, fun p vs us w H Q g hp hv hu k => ?_⟩
        obtain ⟨u, rfl, hu1⟩ := vrs1 hu
        obtain ⟨p2, zs, rfl, q2, r2⟩ := asL_ok e1 g hu1
        exact ⟨p, p2, vs, zs, rfl, rfl, hp, q2, by rw [hv.len, r2.len]; exact Nat.le_trans hl (Nat.le_of_lt lim_lt), k _ _ (hv.app r2) vn⟩
      · cases h
    · cases h
  · cases h
def fPopAt : FM := fun _ xs ds => match ds with
  | [.d (.int i)] => if -(2 ^ 63) ≤ i ∧ i < 2 ^ 63 then match seqIndex? i xs.length with
    | some k => match xs[k]? with
      | some y => some (xs.eraseIdx k, y)
      | none => none
    | none => none
    else none
  | _ => none
theorem f_popAt : MetS X "list.pop" fPopAt := fun s xs ds ys z h => by
  unfold fPopAt at h
  split at h
  · rename_i i
    split at h
    · rename_i hi
      split at h
      · rename_i kk e0
        split at h
        · rename_i y e1
          cases h
          refine ⟨_, mt_popAt, fun p vs us w H Q g hp hv hu k => ?_⟩
          obtain ⟨u, rfl, hu1⟩ := vrs1 hu
          cases vr_int hu1
          obtain ⟨v, h1, h2⟩ := hv.get e1
          exact ⟨p, vs, i, kk, v, rfl, rfl, hp, hi.1, hi.2, by rw [hv.len]; exact e0, h1, k _ _ (hv.eraseIdx kk) h2⟩
        · cases h
      · cases h
    · cases h
  · cases h

def eDic : ME := fun _ s => some (.r s.length, s ++ [.dic []])
theorem inq_cases {neg : Bool} {x : PyData} {ds : List PyData} {k : Bool} (h : cInQ neg x ds = some k) : PyData.plainAll ds = true ∧ x.plain = true ∧ min (PyData.depthAll ds) x.depth ≤ 60 ∧ k = (if neg then !(ds.any fun z => PyData.eqv z x) else ds.any fun z => PyData.eqv z x) := by
  unfold cInQ at h
  split at h
  · rename_i hc
    cases h
    exact ⟨hc.1, hc.2.1, hc.2.2, rfl⟩
  · cases h
theorem cIn_ok {op : CmpOp} {neg : Bool} (h1 : OpR X (compareOp op) (Z.rInZ X.K X.A.units neg)) (h2 : OpR X (compareOp op) (Z.rInX X neg)) (hu : X.A.units + 64 < cLine) {s : Sto} {a b : D} {k : Bool} (e : cIn neg s a b = some k) (ndk : ∀ j kvs, b = .r j → s[j]? ≠ some (.dk kvs)) :
    ∃ q, OpR X (compareOp op) q ∧ BiN (ba X) q s a b (.d (.bool k)) s := by
  have seq : ∀ {c : PyData} {ds : List PyData} {x : PyData}, pd s b = some c → (c = .list ds ∨ c = .tuple ds) → pd s a = some x → cInQ neg x ds = some k → ∃ q, OpR X (compareOp op) q ∧ BiN (ba X) q s a b (.d (.bool k)) s := fun {c ds x} hb hc ha hq => by
    obtain ⟨p1, p2, p3, rfl⟩ := inq_cases hq
    refine ⟨_, h1, fun u v w H Q g v1 v2 q => ⟨x, c, ds, pd_ok ha g v1, pd_ok hb g v2, hc, p1, p2, by show X.A.units + 1 + _ < _; omega, q _ w H (W.le.refl w) g vb⟩⟩
  unfold cIn at e
  split at e
  · split at e
    · rename_i x e1
      exact seq rfl (.inr rfl) e1 e
    · cases e
  · split at e
    · rename_i x e1
      exact seq rfl (.inl rfl) e1 e
    · cases e
  · rename_i j
    split at e
    · rename_i ds e1
      split at e
      · rename_i xs e2
        split at e
        · rename_i x e3
          refine seq (c := .list xs) ?_ (.inl rfl) e3 e
          show (match s[j]? with
            | some (.lst ds) => match data ds with
              | some xs => some (PyData.list xs)
              | none => none
            | _ => none) = _
          rw [e1]
          simp only [e2]
        · cases e
      · cases e
    · rename_i kvs e1
      split at e
      · rename_i x
        split at e
        · rename_i hk
          cases e
          refine ⟨_, h2, fun u v w H Q g v1 v2 q => ?_⟩
          obtain ⟨b1, rfl, kb⟩ := key_ok hk v1
          obtain ⟨p1, hp1, rfl⟩ := v2
          obtain ⟨_, xs, q1, q2⟩ := g.ce _ _ p1 e1 hp1
          refine ⟨p1, b1, xs, x, rfl, rfl, q1, q2.ky g.ext, ⟨dpUp g.ext _ _ kb.1, kb.2⟩, ?_⟩
          rw [q2.has]
          exact q _ w H (W.le.refl w) g vb
        · cases e
      · cases e
    · rename_i kvs e1
      exact absurd e1 (ndk j kvs rfl)
    · cases e
  · cases e
noncomputable def dGet (kvs : List (PyData × D)) (x : PyData) : Option D := (kvs.find? fun kv => decide (kv.1 = x)).map (·.2)
theorem DR.get {B : Ba} {w : W} {x : PyData} {d : D} : ∀ {xs : List DEn} {kvs : List (PyData × D)}, DR B w xs kvs → dGet kvs x = some d → ∃ c u v, atKey xs x = some (c, u) ∧ RelV v u ∧ VR B w v d
  | [], [], _, h => by cases h
  | e :: xs, kv :: kvs, ⟨⟨h1, h2, vv, h4, h5⟩, h6⟩, h => by
    unfold dGet at h
    unfold atKey
    rw [List.find?_cons] at h ⊢
    by_cases hk : kv.1 = x
    · rw [h1]
      simp only [hk, decide_true] at h ⊢
      cases h
      exact ⟨_, _, vv, rfl, h4, h5⟩
    · rw [h1]
      simp only [hk, decide_false] at h ⊢
      exact DR.get h6 h
  | [], _ :: _, h, _ => h.elim
  | _ :: _, [], h, _ => h.elim
/-- d[k] for dicts with tuples as keys; else an item -/
noncomputable def eIxD (ma mb : ME) : ME := eBin (fun s a b => match a, b with
  | .r j, .d x => match s[j]? with
    | some (.dic kvs) => if isKey x then match dGet kvs x with
        | some d => some (d, s)
        | none => none
      else none
    | _ => none
  | _, _ => none) ma mb
theorem n_ixD (hu : X.A.units + 64 < cLine) (ha : NE X a ma) (hb : NE X b mb) (hs : PlainIx b := by intro _ _; rfl) : NE X (.Subscript a b pos) (eIxD ma mb) := fun e s z s' h => by
  obtain ⟨x, s1, y, s2, e1, e2, e3⟩ := bin_cases h
  split at e3
  · rename_i j x
    split at e3
    · rename_i kvs e4
      split at e3
      · rename_i hk
        split at e3
        · rename_i d e5
          cases e3
          refine PE.imp (pe_ix (Z.ix_X (by omega)) (ha _ _ _ _ e1) (hb _ _ _ _ e2) hs) (bi_run fun u v w H Q g v1 v2 q => ?_)
          obtain ⟨b1, rfl, kb⟩ := key_ok hk v2
          obtain ⟨p1, hp1, rfl⟩ := v1
          obtain ⟨_, xs, q1, q2⟩ := g.ce _ _ p1 e4 hp1
          obtain ⟨c, uu, vv, h5, h6, h7⟩ := q2.get e5
          exact ⟨p1, b1, xs, x, c, uu, vv, rfl, rfl, q1, q2.ky g.ext, ⟨dpUp g.ext _ _ kb.1, kb.2⟩, h5, h6, q vv w H (W.le.refl w) g h7⟩
        · cases e3
      · cases e3
    · cases e3
  · cases e3
/-- d[k] = v -/
noncomputable def dPut (kvs : List (PyData × D)) (x : PyData) (d : D) : List (PyData × D) := if dHas kvs x then kvs.map fun kv => if kv.1 = x then (kv.1, d) else kv else kvs ++ [(x, d)]
theorem DR.len {B : Ba} {w : W} : ∀ {xs : List DEn} {kvs : List (PyData × D)}, DR B w xs kvs → xs.length = kvs.length
  | [], [], _ => rfl
  | v :: vs, d :: ds, ⟨h1, h2⟩ => by simp [DR.len h2]
  | [], _ :: _, h => h.elim
  | _ :: _, [], h => h.elim
theorem DR.map {B : Ba} {w : W} {x : PyData} {d : D} {u : Value} {v : V} (hu : RelV v u) (hv : VR B w v d) : ∀ {xs : List DEn} {kvs : List (PyData × D)}, DR B w xs kvs → DR B w (xs.map (putAt x u)) (kvs.map fun kv => if kv.1 = x then (kv.1, d) else kv)
  | [], [], _ => trivial
  | e :: xs, kv :: kvs, ⟨⟨h1, h2, h3⟩, h⟩ => by
    refine ⟨?_, DR.map hu hv h⟩
    unfold putAt
    by_cases hk : kv.1 = x
    · rw [if_pos (by rw [h1]; simpa using hk)]
      dsimp only
      rw [if_pos hk]
      exact ⟨h1, h2, v, hu, hv⟩
    · rw [if_neg (by rw [h1]; simpa using hk)]
      dsimp only
      rw [if_neg hk]
      exact ⟨h1, h2, h3⟩
  | [], _ :: _, h => h.elim
  | _ :: _, [], h => h.elim
theorem DR.app {B : Ba} {w : W} {e : DEn} {kv : PyData × D} (he : e.1 = kv.1 ∧ KyD B.K w.F e.2.1 e.1 ∧ ∃ vv, RelV vv e.2.2 ∧ VR B w vv kv.2) : ∀ {xs : List DEn} {kvs : List (PyData × D)}, DR B w xs kvs → DR B w (xs ++ [e]) (kvs ++ [kv])
  | [], [], _ => ⟨he, trivial⟩
  | _ :: _, _ :: _, ⟨h1, h⟩ => ⟨h1, DR.app he h⟩
  | [], _ :: _, h => h.elim
  | _ :: _, [], h => h.elim
theorem DR.put {B : Ba} {w : W} {x : PyData} {d : D} {b : Addr} {u : Value} {v : V} {xs : List DEn} {kvs : List (PyData × D)} (h : DR B w xs kvs) (kb : KyD B.K w.F b x) (hu : RelV v u) (hv : VR B w v d) : DR B w (storedH xs x b u) (dPut kvs x d) := by
  unfold storedH dPut
  rw [h.has]
  split
  · exact h.map hu hv
  · exact h.app ⟨rfl, kb, v, hu, hv⟩
noncomputable def sPutD (ma mi mv : ME) : MS := fun e s => match mv e s with
  | some (d, s1) => match ma e s1 with
    | some (.r j, s2) => match mi e s2 with
      | some (.d x, s3) => match s3[j]? with
        | some (.dic kvs) => if isKey x ∧ kvs.length < lim then some (.nx, e, s3.set j (.dic (dPut kvs x d))) else none
        | _ => none
      | _ => none
    | _ => none
  | none => none
theorem ns_putD {tpos : Pos} {mi mv : ME} (hu : X.A.units + 64 < cLine) (hv : NE X ex mv) (ha : NE X a ma) (hi : NE X b mi)
    (hsub : ∀ v, assign (.Subscript a b tpos) X.env v = (do
      let ov ← holding [v] (eval a X.env)
      let iv ← holding [v, ov] (eval b X.env)
      standAt tpos
      holding [v, ov, iv] (setItem ov iv v)
      release [v, ov, iv] []) := by intro _; rfl)
    (hs : swapsWithSole [.Subscript a b tpos] ex pos.line X.env = pure false := by rfl) (hw : swappedStores [.Subscript a b tpos] ex X.env = pure none := by rfl) (h1 : (assignEach [.Subscript a b tpos] X.env).map (·.2) = [assign (.Subscript a b tpos) X.env] := by rfl) :
    NS X (.Assign [.Subscript a b tpos] ex pos) (sPutD ma mi mv) := fun e s fl e' s' bb hm hb => by
  unfold sPutD at hm
  split at hm
  · rename_i d s1 e1
    split at hm
    · rename_i j s2 e2
      split at hm
      · rename_i x s3 e3
        split at hm
        · rename_i kvs e4
          split at hm
          · rename_i hk
            cases hm
            refine Z.PS.imp (ps_asg (hv _ _ _ _ e1) (pg_sub (ha _ _ _ _ e2) (hi _ _ _ _ e3) (Z.put_X (by omega)) hsub) hs hw h1) fun Dn σ H ⟨w, g, l, k⟩ => ⟨w, g, l, fun v w1 H1 l1 g1 v1 => ⟨w1, g1, l.up l1, fun u w2 H2 l2 g2 v2 => ⟨w2, g2, (l.up l1).up l2, fun z w3 H3 l3 g3 v3 => ?_⟩⟩⟩
            obtain ⟨b1, rfl, kb⟩ := key_ok hk.1 v3
            obtain ⟨p1, hp1, rfl⟩ := v2.up l3
            obtain ⟨hF, xs, q1, q2⟩ := g3.ce _ _ p1 e4 hp1
            refine ⟨p1, b1, xs, x, rfl, rfl, q1, q2.ky g3.ext, ⟨dpUp g3.ext _ _ kb.1, kb.2⟩, ⟨xs.map (·.1), by rw [List.length_map, q2.len]; exact Nat.lt_trans hk.2 lim_lt, fun e he => List.mem_map.mpr ⟨e, he, rfl⟩⟩, fun uu hu => ?_⟩
            exact k w3 σ _ (((l1.trans l2).trans l3).cut bb) (g3.chg hp1 hF ⟨hF, _, upd_same, q2.put kb hu ((v1.up l2).up l3)⟩) (((l.up l1).up l2).up l3)
          · cases hm
        · cases hm
      · cases hm
    · cases hm
  · cases hm
end
end N

namespace N
open PySem L2 PyProof.Rows
open Z (Ext dpUp dpsUp dpsLen dpsGet DxO KyD DEn Cl cut offv bl Dfn)
section
variable {X : Cx} {ex a b c tg iter elt : Expr} {es ifs : List Expr} {st : Stmt} {rest body orelse : List Stmt} {m ma mb mc : ME} {ms : MA} {mt mu : MT} {pos p : Pos} {M M1 M2 : MS}
/-- an item of whatever it is -/
noncomputable def gIxU (s : Sto) (a b : D) : Option D := match b with
  | .d (.int i) => gIx s a i
  | .d x => match a with
    | .r j => match s[j]? with
      | some (.dic kvs) => if isKey x then dGet kvs x else none
      | _ => none
    | _ => none
  | _ => none
noncomputable def eItem (ma mb : ME) : ME := eBin (fun s a b => match gIxU s a b with
  | some d => some (d, s)
  | none => none) ma mb
theorem n_item (hu : X.A.units + 64 < cLine) (ha : NE X a ma) (hb : NE X b mb) (hs : PlainIx b := by intro _ _; rfl) : NE X (.Subscript a b pos) (eItem ma mb) := fun e s z s' h => by
  obtain ⟨x, s1, y, s2, e1, e2, e3⟩ := bin_cases h
  split at e3
  · rename_i d e4
    cases e3
    unfold gIxU at e4
    split at e4
    · rename_i i
      refine n_ix ha hb hs e s z s' ?_
      unfold eIx eBin
      simp only [e1, e2, e4]
    · rename_i y' _
      split at e4
      · rename_i j
        split at e4
        · rename_i kvs e5
          split at e4
          · rename_i hk
            refine n_ixD hu ha hb hs e s z s' ?_
            unfold eIxD eBin
            simp only [e1, e2, e5, hk, e4, if_true]
          · cases e4
        · cases e4
      · cases e4
    · cases e4
  · cases e3
/-- a store to an item of whatever it is -/
noncomputable def sPutU (ma mi mv : ME) : MS := fun e s => match sPut ma mi mv e s with
  | some r => some r
  | none => sPutD ma mi mv e s
theorem ns_putU {tpos : Pos} {mi mv : ME} (hu : X.A.units + 64 < cLine) (hv : NE X ex mv) (ha : NE X a ma) (hi : NE X b mi)
    (hsub : ∀ v, assign (.Subscript a b tpos) X.env v = (do
      let ov ← holding [v] (eval a X.env)
      let iv ← holding [v, ov] (eval b X.env)
      standAt tpos
      holding [v, ov, iv] (setItem ov iv v)
      release [v, ov, iv] []) := by intro _; rfl)
    (hs : swapsWithSole [.Subscript a b tpos] ex pos.line X.env = pure false := by rfl) (hw : swappedStores [.Subscript a b tpos] ex X.env = pure none := by rfl) (h1 : (assignEach [.Subscript a b tpos] X.env).map (·.2) = [assign (.Subscript a b tpos) X.env] := by rfl) :
    NS X (.Assign [.Subscript a b tpos] ex pos) (sPutU ma mi mv) := fun e s fl e' s' bb hm hb => by
  unfold sPutU at hm
  split at hm
  · rename_i r e1
    cases hm
    exact ns_put hv ha hi hsub hs hw h1 _ _ _ _ _ _ e1 hb
  · exact ns_putD hu hv ha hi hsub hs hw h1 _ _ _ _ _ _ hm hb

def spE (K : PySem.W.Frag) : Sp := fun vs H Q _ => ∃ a ns, List.length ns ≤ 63 ∧ vs = [.ref a] ∧ SqL K H a (ns.map V.int) ∧ ∀ H', Q (.bl true) H'
theorem head_ok {K : PySem.W.Frag} {H : Hp} {a : Addr} {ns : List Int} (hl : ns.length ≤ 63) (hS : SqL K H a (ns.map V.int)) : spE K [.ref a] H (fun v _ => v = .bl true) fun _ _ _ => False := ⟨a, ns, hl, rfl, hS, fun _ => rfl⟩
theorem law_fn {P : Program} {w : World} {K : PySem.W.Frag} {mg : Str → Option Value} {base : Heap} {x : Str} {st : Stmt} {N : List Str} {k : Nat} {M : MS} {f : Addr} {fd : FuncData} (F : Fun K x x st f fd) (S : FnScope N ["script"] (defScope st))
    (body : ∀ (f : Addr) (cdv : Value) (A : Around) (outer : List Env) (s : Shared) (H : Hp) (E : XK), Room k (A.deeper (envOfC x (defScope st) s.heap.objs.size f cdv)) →
      NSs (cxOf CX0 P w K mg base N x (defScope st) f cdv A outer s H E).nox (defBody st) M)
    (run : ∀ ns : List Int, ns.length ≤ 63 → ∃ s', fnR 1 N.length false M [] [.d (.list (ns.map .int))] = some (.d (.bool true), s')) : FnOk P w K mg base CX0 (k + 1) f fd ["script"] (spE K) := by
  refine F.ok S (fun vs H Q E ⟨a, ns, hl, e, _⟩ => by rw [e]; rfl) (fun cdv A outer sh H vs Q E hr ⟨a, ns, hl, e, hS, q⟩ => ?_)
  subst e
  obtain ⟨s', h⟩ := run ns hl
  have g : Ok ⟨P, w, K⟩ ⟨H, []⟩ [] H := ⟨Ext.refl _, rfl, List.nodup_nil, fun a h => by simp at h, fun j c a h => by simp at h⟩
  have hv : VRs ⟨P, w, K⟩ ⟨H, []⟩ [.ref a] [.d (.list (ns.map .int))] := ⟨.lst hS (Z.dps_of_ints K H ns), trivial⟩
  have go : ∀ fl e1 s1 d0, M ([D.d (.list (ns.map .int))].map some ++ List.replicate (N.length - 1) none) [] = some (fl, e1, s1) → ret false [] d0 s1 = some (.d (.bool true), s') → (fl = .rt d0 ∨ (fl = .nx ∧ d0 = .d .none)) → ∃ t, PSs (cxOf CX0 P _ K mg base N x (defScope st) f cdv A outer sh H E).nox (defBody st) t ∧ t { nx := fun _ H' => Q .non H', rt := Q } (start N [.ref a]) H := fun fl e1 s1 d0 h1 h2 h3 => by
    refine ⟨_, body f cdv A outer sh H E hr _ _ _ _ _ 0 h1 (Nat.zero_le _), ⟨H, []⟩, g, VRs.start _ hv, ?_⟩
    rcases h3 with rfl | ⟨rfl, rfl⟩
    · exact fun w' v H' l g' v' => by
        obtain ⟨w2, l2, g2, v2⟩ := ret_ok h2 g (W.le.of_take l g.lr) g' v'
        cases vr_bl v2
        exact q H'
    · exact fun w' σ' H' l g' sl => by
        obtain ⟨w2, l2, g2, v2⟩ := ret_ok h2 g (W.le.of_take l g.lr) g' vn
        cases v2
  unfold fnR at h
  rw [if_pos (show List.length [D.d (PyData.list (List.map PyData.int ns))] = 1 from rfl)] at h
  split at h
  · rename_i d0 e1 s1 e0
    exact go _ _ _ _ e0 h (.inl rfl)
  · rename_i e1 s1 e0
    exact go _ _ _ _ e0 h (.inr ⟨rfl, rfl⟩)
  · cases h
end
end N

namespace N
open PySem L2 PyProof.Rows
open Sem (wp)
open AutoSeq1 (wpAny_loadPart')
section
variable {prog : Program} {w : World} {A : Around} {E : Value → Shared → Prop} {s : Shared}
end
open Z (Ext dpUp dpsUp dpsLen dpsGet DxO KyD DEn Cl cut offv bl Dfn)
section
variable {X : Cx} {ex a b c tg iter elt : Expr} {es ifs elts : List Expr} {st : Stmt} {rest body orelse : List Stmt} {m ma mb mc : ME} {ms : MA} {mt mu : MT} {pos p tpos : Pos} {M M1 M2 : MS}
/-- pairs of places and data -/
def enumD (xs : List PyData) : List D := (List.range xs.length).zipWith (fun i x => .d (.tuple [.int (i : Nat), x])) xs
/-- over enumerate(x), x a tuple or a list, of data -/
def iEnum (ms : MA) : MI := fun e s => match ms e s with
  | some ([.d (.tuple xs)], s1) => some (enumD xs, none, s1)
  | some ([.d (.list xs)], s1) => some (enumD xs, none, s1)
  | some ([.r j], s1) => match s1[j]? with
    | some (.lst ds) => match data ds with
      | some xs => some (enumD xs, some (j, ds), s1)
      | none => none
    | _ => none
  | _ => none
end
end N

namespace N
open PySem L2 PyProof.Rows
open Z (Ext dpUp dpsUp dpsLen dpsGet DxO KyD DEn Cl cut offv bl Dfn)
def kGet (kvs : List (Key × D)) (k : Key) : Option D := (kvs.find? fun kv => decide (kv.1 = k)).map (·.2)
def kPut (kvs : List (Key × D)) (k : Key) (d : D) : List (Key × D) := if kHas kvs k then kvs.map fun kv => if kv.1 = k then (kv.1, d) else kv else kvs ++ [(k, d)]
section
variable {B : Ba} {w : W} {k : Key}
theorem KR.has : ∀ {xs : List (Key × V)} {kvs : List (Key × D)}, KR B w xs kvs → (xs.any fun kv => decide (kv.1 = k)) = kHas kvs k
  | [], [], _ => rfl
  | e :: xs, kv :: kvs, ⟨⟨h1, _⟩, h⟩ => by
    unfold kHas
    rw [List.any_cons, List.any_cons, h1, KR.has h]
    rfl
  | [], _ :: _, h => h.elim
  | _ :: _, [], h => h.elim
theorem KR.val : ∀ {xs : List (Key × V)} {kvs : List (Key × D)}, KR B w xs kvs → (valV xs k).isSome = kHas kvs k ∧ ∀ d, kGet kvs k = some d → ∃ v, valV xs k = some v ∧ VR B w v d
  | [], [], _ => ⟨rfl, fun d h => by cases h⟩
  | e :: xs, kv :: kvs, ⟨⟨h1, h2⟩, h⟩ => by
    obtain ⟨ih1, ih2⟩ := KR.val h
    unfold valV kGet at *
    unfold kHas at *
    rw [Option.isSome_map] at ih1
    rw [List.any_cons, List.find?_cons, List.find?_cons, h1]
    by_cases hk : kv.1 = k
    · simp only [hk, decide_true, Option.map_some, Option.isSome_some, Bool.true_or, true_and]
      intro d hd
      cases hd
      exact ⟨_, rfl, h2⟩
    · simp only [hk, decide_false, Bool.false_or]
      refine ⟨by rw [Option.isSome_map]; exact ih1, ih2⟩
  | [], _ :: _, h => h.elim
  | _ :: _, [], h => h.elim
theorem KR.put {v : V} {d : D} (hv : VR B w v d) {xs : List (Key × V)} {kvs : List (Key × D)} (h : KR B w xs kvs) : KR B w (putK xs k v) (kPut kvs k d) := by
  have mp : ∀ {xs : List (Key × V)} {kvs : List (Key × D)}, KR B w xs kvs → KR B w (xs.map fun kv => if kv.1 = k then (kv.1, v) else kv) (kvs.map fun kv => if kv.1 = k then (kv.1, d) else kv) := by
    intro xs
    induction xs with
    | nil => intro kvs h; cases kvs with
      | nil => trivial
      | cons => exact h.elim
    | cons e xs ih => intro kvs h; cases kvs with
      | nil => exact h.elim
      | cons kv kvs =>
        obtain ⟨⟨h1, h2⟩, h3⟩ := h
        refine ⟨?_, ih h3⟩
        dsimp only
        by_cases hk : kv.1 = k
        · rw [if_pos (h1.trans hk), if_pos hk]; exact ⟨h1, hv⟩
        · rw [if_neg (by rw [h1]; exact hk), if_neg hk]; exact ⟨h1, h2⟩
  have ap : ∀ {xs : List (Key × V)} {kvs : List (Key × D)}, KR B w xs kvs → KR B w (xs ++ [(k, v)]) (kvs ++ [(k, d)]) := by
    intro xs
    induction xs with
    | nil => intro kvs h; cases kvs with
      | nil => exact ⟨⟨rfl, hv⟩, trivial⟩
      | cons => exact h.elim
    | cons e xs ih => intro kvs h; cases kvs with
      | nil => exact h.elim
      | cons kv kvs => exact ⟨h.1, ih h.2⟩
  unfold putK kPut
  rw [h.has]
  split
  · exact mp h
  · exact ap h
end
theorem chg_dk {B : Ba} {w : W} {s : Sto} {H : Hp} {v : V} {j : Nat} {kvs : List (Key × D)} (g : Ok B w s H) (hv : VR B w v (.r j)) (hs : s[j]? = some (.dk kvs)) :
    ∃ a xs, v = .ref a ∧ H a = some (.dK xs) ∧ KR B w xs kvs ∧ ∀ kvs' xs', KR B w xs' kvs' → Ok B w (s.set j (.dk kvs')) (upd H a (.dK xs')) := by
  obtain ⟨a, h1, rfl⟩ := hv
  obtain ⟨hF, xs, h2, h3⟩ := g.ce _ _ a hs h1
  exact ⟨a, xs, rfl, h2, h3, fun kvs' xs' h => g.chg h1 hF ⟨hF, xs', upd_same, h⟩⟩
section
variable {X : Cx} {ex a b c tg iter elt kx vx : Expr} {es ifs elts : List Expr} {st : Stmt} {rest body orelse : List Stmt} {m ma mb mc : ME} {ms : MA} {mt mu : MT} {pos p tpos : Pos} {M M1 M2 : MS}
def eDicK : ME := fun _ s => some (.r s.length, s ++ [.dk []])
theorem in_dk {neg : Bool} {s : Sto} {a : D} {j : Nat} {kvs : List (Key × D)} {k : Bool} (h : cIn neg s a (.r j) = some k) (e : s[j]? = some (.dk kvs)) : ∃ x kk, a = .d x ∧ keyOf x = some kk ∧ k = (if neg then !kHas kvs kk else kHas kvs kk) := by
  unfold cIn at h
  simp only [e] at h
  split at h
  · rename_i x
    split at h
    · rename_i kk e2
      cases h
      exact ⟨x, kk, rfl, e2, rfl⟩
    · cases h
  · cases h
/-- x in ..: the full -/
theorem n_in {neg : Bool} {op : CmpOp} (hop : (op = .In ∧ neg = false) ∨ (op = .NotIn ∧ neg = true)) (hu : X.A.units + 64 < cLine) (ha : NE X a ma) (hb : NE X b mb) (hm : behindInMarks op b = false := by rfl) : NE X (.Compare a [op] [b] pos) (eCmp (cIn neg) ma mb) := fun e s z s' h => by
  obtain ⟨x, s1, y, s2, e1, e2, e3⟩ := bin_cases h
  split at e3
  · rename_i k ek
    cases e3
    by_cases hd : ∃ j kvs, y = .r j ∧ s'[j]? = some (.dk kvs)
    · obtain ⟨j, kvs, rfl, hj⟩ := hd
      obtain ⟨dx, kk, rfl, hk, rfl⟩ := in_dk ek hj
      rcases hop with ⟨rfl, rfl⟩ | ⟨rfl, rfl⟩
      · refine PE.imp (pe_cmp (pc_din (by omega) (ha _ _ _ _ e1) (hb _ _ _ _ e2)) hm) fun σ H Q ⟨w, g, l, q⟩ => ⟨w, g, l, fun v w1 H1 l1 g1 v1 => ⟨w1, g1, l.up l1, fun u w2 H2 l2 g2 v2 => ?_⟩⟩
        obtain ⟨p1, xs, rfl, h2, h3, _⟩ := chg_dk g2 v2 hj
        have hv := keyOf_ok hk (v1.up l2)
        refine ⟨p1, valV xs kk, rfl, .inl ⟨xs, kk, .inl h2, hv, rfl⟩, ?_⟩
        rw [(h3.val (k := kk)).1]
        exact q _ w2 H2 (l1.trans l2) g2 vb
      · refine PE.imp (pe_cmp (pc_dnotin (by omega) (ha _ _ _ _ e1) (hb _ _ _ _ e2)) hm) fun σ H Q ⟨w, g, l, q⟩ => ⟨w, g, l, fun v w1 H1 l1 g1 v1 => ⟨w1, g1, l.up l1, fun u w2 H2 l2 g2 v2 => ?_⟩⟩
        obtain ⟨p1, xs, rfl, h2, h3, _⟩ := chg_dk g2 v2 hj
        have hv := keyOf_ok hk (v1.up l2)
        refine ⟨p1, valV xs kk, rfl, .inl ⟨xs, kk, .inl h2, hv, rfl⟩, ?_⟩
        rw [(h3.val (k := kk)).1]
        exact q _ w2 H2 (l1.trans l2) g2 vb
    · have nd : ∀ j kvs, y = .r j → s'[j]? ≠ some (.dk kvs) := fun j kvs e1 e2 => hd ⟨j, kvs, e1, e2⟩
      rcases hop with ⟨rfl, rfl⟩ | ⟨rfl, rfl⟩
      · obtain ⟨q, hq, hB⟩ := cIn_ok Z.op_inZ (Z.op_inX (by omega)) hu ek nd
        exact PE.imp (pe_cmpR hq (ha _ _ _ _ e1) (hb _ _ _ _ e2) hm) (bi_run hB)
      · obtain ⟨q, hq, hB⟩ := cIn_ok Z.op_ninZ (Z.op_ninX (by omega)) hu ek nd
        exact PE.imp (pe_cmpR hq (ha _ _ _ _ e1) (hb _ _ _ _ e2) hm) (bi_run hB)
  · cases e3
theorem nt_in {neg : Bool} {op : CmpOp} (hop : (op = .In ∧ neg = false) ∨ (op = .NotIn ∧ neg = true)) (hu : X.A.units + 64 < cLine) (ha : NE X a ma) (hb : NE X b mb) (hm : behindInMarks op b = false := by rfl) : NT X (.Compare a [op] [b] pos) (tCmp (cIn neg) ma mb) := fun e s k s' h => by
  unfold tCmp at h
  split at h
  · rename_i x s1 e1
    split at h
    · rename_i y s2 e2
      split at h
      · rename_i k' ek
        cases h
        by_cases hd : ∃ j kvs, y = .r j ∧ s'[j]? = some (.dk kvs)
        · obtain ⟨j, kvs, rfl, hj⟩ := hd
          obtain ⟨dx, kk, rfl, hk, rfl⟩ := in_dk ek hj
          rcases hop with ⟨rfl, rfl⟩ | ⟨rfl, rfl⟩
          · refine PT.imp (pt_cmp (pc_din (by omega) (ha _ _ _ _ e1) (hb _ _ _ _ e2)) hm) fun σ H Q ⟨w, g, l, q⟩ => ⟨w, g, l, fun v w1 H1 l1 g1 v1 => ⟨w1, g1, l.up l1, fun u w2 H2 l2 g2 v2 => ?_⟩⟩
            obtain ⟨p1, xs, rfl, h2, h3, _⟩ := chg_dk g2 v2 hj
            have hv := keyOf_ok hk (v1.up l2)
            refine ⟨p1, valV xs kk, rfl, .inl ⟨xs, kk, .inl h2, hv, rfl⟩, _, rfl, ?_⟩
            rw [(h3.val (k := kk)).1]
            exact q w2 H2 (l1.trans l2) g2
          · refine PT.imp (pt_cmp (pc_dnotin (by omega) (ha _ _ _ _ e1) (hb _ _ _ _ e2)) hm) fun σ H Q ⟨w, g, l, q⟩ => ⟨w, g, l, fun v w1 H1 l1 g1 v1 => ⟨w1, g1, l.up l1, fun u w2 H2 l2 g2 v2 => ?_⟩⟩
            obtain ⟨p1, xs, rfl, h2, h3, _⟩ := chg_dk g2 v2 hj
            have hv := keyOf_ok hk (v1.up l2)
            refine ⟨p1, valV xs kk, rfl, .inl ⟨xs, kk, .inl h2, hv, rfl⟩, _, rfl, ?_⟩
            rw [(h3.val (k := kk)).1]
            exact q w2 H2 (l1.trans l2) g2
        · have nd : ∀ j kvs, y = .r j → s'[j]? ≠ some (.dk kvs) := fun j kvs e1 e2 => hd ⟨j, kvs, e1, e2⟩
          have go : ∀ {q : R2}, OpR X (compareOp op) q → BiN (ba X) q s' x y (.d (.bool k)) s' → PT X (.Compare a [op] [b] pos) (tT (ba X) e s k s') := fun hq hB => by
            refine PT.imp (pt_cmpR hq (ha _ _ _ _ e1) (hb _ _ _ _ e2) hm) fun σ H Q ⟨w, g, l, q'⟩ => ?_
            refine bi_run hB σ H _ ⟨w, g, l, fun v w' H' l' g' v' => ?_⟩
            exact ⟨k, vr_bl v', q' w' H' l' g'⟩
          rcases hop with ⟨rfl, rfl⟩ | ⟨rfl, rfl⟩
          · obtain ⟨q, hq, hB⟩ := cIn_ok Z.op_inZ (Z.op_inX (by omega)) hu ek nd
            exact go hq hB
          · obtain ⟨q, hq, hB⟩ := cIn_ok Z.op_ninZ (Z.op_ninX (by omega)) hu ek nd
            exact go hq hB
      · cases h
    · cases h
  · cases h
/-- d[k], keys ints and texts -/
def eIxK (ma mb : ME) : ME := eBin (fun s a b => match a, b with
  | .r j, .d x => match s[j]? with
    | some (.dk kvs) => match keyOf x with
      | some k => match kGet kvs k with
        | some d => some (d, s)
        | none => none
      | none => none
    | _ => none
  | _, _ => none) ma mb
theorem n_ixK (hu : X.A.units + 64 < cLine) (ha : NE X a ma) (hb : NE X b mb) (hs : NoSl b := by intro _ _; rfl) : NE X (.Subscript a b pos) (eIxK ma mb) := fun e s z s' h => by
  obtain ⟨x, s1, y, s2, e1, e2, e3⟩ := bin_cases h
  split at e3
  · rename_i j x
    split at e3
    · rename_i kvs e4
      split at e3
      · rename_i kk hk
        split at e3
        · rename_i d e5
          cases e3
          refine PE.imp (pe_dget (by omega) (ha _ _ _ _ e1) (hb _ _ _ _ e2) hs) fun σ H Q ⟨w, g, l, q⟩ => ⟨w, g, l, fun v w1 H1 l1 g1 v1 => ⟨w1, g1, l.up l1, fun u w2 H2 l2 g2 v2 => ?_⟩⟩
          obtain ⟨p1, xs, rfl, h2, h3, _⟩ := chg_dk g2 (v1.up l2) e4
          obtain ⟨vv, h4, h5⟩ := (h3.val (k := kk)).2 _ e5
          exact ⟨p1, vv, rfl, .inl ⟨xs, kk, .inl h2, keyOf_ok hk v2, h4.symm⟩, q _ w2 H2 (l1.trans l2) g2 h5⟩
        · cases e3
      · cases e3
    · cases e3
  · cases e3
noncomputable def eIt (ma mb : ME) : ME := fun e s => match eItem ma mb e s with
  | some r => some r
  | none => eIxK ma mb e s
theorem n_it (hu : X.A.units + 64 < cLine) (ha : NE X a ma) (hb : NE X b mb) (hs : PlainIx b := by intro _ _; rfl) (hs2 : NoSl b := by intro _ _; rfl) : NE X (.Subscript a b pos) (eIt ma mb) := fun e s z s' h => by
  unfold eIt at h
  split at h
  · rename_i r e1
    cases h
    exact n_item hu ha hb hs _ _ _ _ e1
  · exact n_ixK hu ha hb hs2 _ _ _ _ h
def sPutK (ma mi mv : ME) : MS := fun e s => match mv e s with
  | some (d, s1) => match ma e s1 with
    | some (.r j, s2) => match mi e s2 with
      | some (.d x, s3) => match s3[j]? with
        | some (.dk kvs) => match keyOf x with
          | some k => if kvs.length < lim then some (.nx, e, s3.set j (.dk (kPut kvs k d))) else none
          | none => none
        | _ => none
      | _ => none
    | _ => none
  | none => none
theorem ns_putK {tpos : Pos} {mi mv : ME} (hu : X.A.units + 64 < cLine) (hv : NE X ex mv) (ha : NE X a ma) (hi : NE X b mi) (hs : swapsWith ex (some (.Subscript a b tpos)) pos.line X.env = pure false := by rfl) : NS X (.Assign [.Subscript a b tpos] ex pos) (sPutK ma mi mv) := fun e s fl e' s' bb hm hb => by
  unfold sPutK at hm
  split at hm
  · rename_i d s1 e1
    split at hm
    · rename_i j s2 e2
      split at hm
      · rename_i x s3 e3
        split at hm
        · rename_i kvs e4
          split at hm
          · rename_i kk hk
            split at hm
            · rename_i hl
              cases hm
              refine Z.PS.imp (ps_dput (by omega) (ha _ _ _ _ e2) (hi _ _ _ _ e3) (hv _ _ _ _ e1) hs) fun Dn σ H ⟨w, g, l, k⟩ => ⟨w, g, l, fun v w1 H1 l1 g1 v1 => ⟨w1, g1, l.up l1, fun u w2 H2 l2 g2 v2 => ⟨w2, g2, (l.up l1).up l2, fun z w3 H3 l3 g3 v3 => ?_⟩⟩⟩
              obtain ⟨p1, xs, rfl, h2, h3, h4⟩ := chg_dk g3 (v2.up l3) e4
              refine ⟨p1, _, rfl, .inl ⟨xs, kk, h2, keyOf_ok hk v3, by rw [h3.len]; exact Nat.lt_trans hl lim_lt, rfl⟩, ?_⟩
              exact k w3 σ _ (((l1.trans l2).trans l3).cut bb) (h4 _ _ (h3.put ((v1.up l2).up l3))) (((l.up l1).up l2).up l3)
            · cases hm
          · cases hm
        · cases hm
      · cases hm
    · cases hm
  · cases hm
noncomputable def sPu (ma mi mv : ME) : MS := fun e s => match sPutU ma mi mv e s with
  | some r => some r
  | none => sPutK ma mi mv e s
theorem ns_pu {tpos : Pos} {mi mv : ME} (hu : X.A.units + 64 < cLine) (hv : NE X ex mv) (ha : NE X a ma) (hi : NE X b mi)
    (hsub : ∀ v, assign (.Subscript a b tpos) X.env v = (do
      let ov ← holding [v] (eval a X.env)
      let iv ← holding [v, ov] (eval b X.env)
      standAt tpos
      holding [v, ov, iv] (setItem ov iv v)
      release [v, ov, iv] []) := by intro _; rfl)
    (hs : swapsWithSole [.Subscript a b tpos] ex pos.line X.env = pure false := by rfl) (hw : swappedStores [.Subscript a b tpos] ex X.env = pure none := by rfl) (h1 : (assignEach [.Subscript a b tpos] X.env).map (·.2) = [assign (.Subscript a b tpos) X.env] := by rfl)
    (hs2 : swapsWith ex (some (.Subscript a b tpos)) pos.line X.env = pure false := by rfl) :
    NS X (.Assign [.Subscript a b tpos] ex pos) (sPu ma mi mv) := fun e s fl e' s' bb hm hb => by
  unfold sPu at hm
  split at hm
  · rename_i r e1
    cases hm
    exact ns_putU hu hv ha hi hsub hs hw h1 _ _ _ _ _ _ e1 hb
  · exact ns_putK hu hv ha hi hs2 _ _ _ _ _ _ hm hb

section
variable {scope : Scope} {own : List (Str × Nat)} {vs : List Nat} {mi : MI} {g : MG} {ek el : ME}
end
end
end N

namespace N
open PySem L2 PyProof.Rows
open Z (Ext dpUp dpsUp dpsLen dpsGet DxO KyD DEn Cl cut offv bl Dfn)
/-- an object that is not told of -/
theorem Ok.ign {B : Ba} {w : W} {s : Sto} {H : Hp} (g : Ok B w s H) {p : Addr} {o : HO} (hp : H p = none) : Ok B w s (upd H p o) := by
  refine ⟨fun a u q => ?_, g.lr, g.nd, fun a ha => ?_, fun j c a h1 h2 => ?_⟩
  · have := g.ext a u q
    rw [upd_ne (ne_of_none this hp)]
    exact this
  · obtain ⟨u, hu⟩ := g.al a ha
    exact ⟨u, by rw [upd_ne (ne_of_none hu hp)]; exact hu⟩
  · have ha := List.mem_of_getElem? h2
    have ne : a ≠ p := fun e => g.notin hp (e ▸ ha)
    have k := g.ce j c a h1 h2
    exact k.up (W.le.refl w) (fun hn => hn) fun o ho => by rw [upd_ne ne]; exact ho
section
variable {X : Cx} {ex a b c tg iter tg1 iter1 elt e : Expr} {es ifs ifs1 elts : List Expr} {st : Stmt} {rest body orelse : List Stmt} {m ma mb mc : ME} {ms : MA} {mt mu : MT} {pos p q p2 tpos : Pos} {M M1 M2 : MS}

structure SetOk (ds : List PyData) : Prop where
  t : ∀ d ∈ ds, Z.isTup d = true ∧ Z.kOK d = true ∧ Z.dep d ≤ 8
  few : ds.length < 64
  s : SrtOk ds
open Classical in
noncomputable def eSrtSet (own : Bool) (m : ME) : ME := fun e s => match m e s with
  | some (d, s1) => match asL s1 d with
    | some ds => match data ds with
      | some xs => if SetOk xs then mkL own s1 ((Z.srt (Z.dd xs)).map .d) else none
      | none => none
    | none => none
  | none => none
open Classical in
noncomputable def lc2L (k : Nat) (ck : Option (Nat × List D)) (g : MG) (mt : MT) (mi1 : MI) (g1 : MG) (mt1 : MT) (el : ME) (vs1 : List Nat) (e0 : Lo) : List D → Sto → Option Sto
  | [], s => if chkOk ck s then some s else none
  | x :: xs, s => if chkOk ck s then match g x e0 with
      | some e1 => match mt e1 s with
        | some (true, s1) => match mi1 e1 s1 with
          | some (items1, ck1, s2) => match lcL k ck1 g1 mt1 el (wipeN e1 vs1) items1 s2 with
            | some s3 => lc2L k ck g mt mi1 g1 mt1 el vs1 e0 xs s3
            | none => none
          | none => none
        | some (false, s1) => lc2L k ck g mt mi1 g1 mt1 el vs1 e0 xs s1
        | none => none
      | none => none
    else none
noncomputable def eLc2 (own : Bool) (vs vs1 : List Nat) (mi : MI) (g : MG) (mt : MT) (mi1 : MI) (g1 : MG) (mt1 : MT) (el : ME) : ME := fun e s => match mi e s with
  | some (items, ck, s1) => match lc2L s1.length ck g mt mi1 g1 mt1 el vs1 (wipeN e vs) items (s1 ++ [.lst []]) with
    | some s2 => lcFin own s1 s2
    | none => none
  | none => none
theorem lc2_run {mi mi1 : MI} {g g1 : MG} {mt1 : MT} {el : ME} {own : Bool} {vs vs1 : List Nat} {e : Lo} {s s' : Sto} {d : D} (h : eLc2 own vs vs1 mi g mt mi1 g1 mt1 el e s = some (d, s')) {wi wi1 : TI} (hw : ∀ items ck s1 σ H R, mi e s = some (items, ck, s1) → tI (ba X) e s items ck s1 σ H R → wi σ H R)
    (hw1 : ∀ e s items ck s1 σ H R, mi1 e s = some (items, ck, s1) → tI (ba X) e s items ck s1 σ H R → wi1 σ H R)
    {G G1 : TG} {TT' TT1 : TT} {EE : TE} (hG : ∀ s d e e' v σ H Q, g d e = some e' → tG (ba X) vs s d e e' v σ H Q → G v σ H Q) (hG1 : ∀ s d e e' v σ H Q, g1 d e = some e' → tG (ba X) vs1 s d e e' v σ H Q → G1 v σ H Q)
    (hT : ∀ e s b s' σ H Q, mt e s = some (b, s') → tT (ba X) e s b s' σ H Q → TT' σ H Q) (hT1 : ∀ e s b s' σ H Q, mt1 e s = some (b, s') → tT (ba X) e s b s' σ H Q → TT1 σ H Q) (hE : ∀ e s d s' σ H Q, el e s = some (d, s') → tE (ba X) e s d s' σ H Q → EE σ H Q) :
    ∀ σ H Q, tE (ba X) e s d s' σ H Q → tLc2 wi G TT' wi1 G1 TT1 EE vs vs1 σ H Q := by
  intro σ H Q ⟨w, g0, l, k⟩
  unfold eLc2 at h
  split at h
  · rename_i items ck s1 e1
    split at h
    · rename_i sF eF
      refine hw _ _ _ _ _ _ e1 ⟨w, g0, l, fun J w1 H1 l1 g1' ck1 wk D hD => ?_⟩
      have gD : Ok (ba X) ⟨w1.F, w1.ρ ++ [D]⟩ (s1 ++ [.lst []]) (upd H1 D (.lst [])) := g1'.new hD ⟨ext_none g1'.ext hD, [], upd_same, trivial⟩
      have lD : w1.le ⟨w1.F, w1.ρ ++ [D]⟩ := Ok.new_le
      have atD : (w1.ρ ++ [D])[s1.length]? = some D := by rw [← g1'.lr, List.getElem?_append_right (Nat.le_refl _), Nat.sub_self]; rfl
      refine ⟨fun i m H' => m = items.length - i ∧ i ≤ items.length ∧ ∃ s2 w2, lc2L s1.length ck g mt mi1 g1 mt1 el vs1 (wipeN e vs) (items.drop i) s2 = some sF ∧ W.le ⟨w1.F, w1.ρ ++ [D]⟩ w2 ∧ Ok (ba X) w2 s2 H', ⟨_, rfl, Nat.zero_le _, _, _, eF, W.le.refl _, gD⟩, ?_⟩
      rintro i m H' ⟨rfl, hi', s2, w2, hf, l2, g2⟩
      have slw : ∀ {w' : W}, W.le ⟨w1.F, w1.ρ ++ [D]⟩ w' → Sl (ba X) w' (wipeN e vs) (wipe σ vs) := fun h => (l.up ((l1.trans lD).trans h)).wipe vs
      by_cases hlt : i < items.length
      · rw [List.drop_eq_getElem_cons hlt] at hf
        unfold lc2L at hf
        split at hf
        · rename_i hck
          obtain ⟨wk1, _⟩ := wk w2 s2 H' (lD.trans l2) g2 hck
          obtain ⟨go, yl⟩ := wk1 i items[i] (List.getElem?_eq_getElem hlt)
          refine .inr ⟨go, fun H3 => ∃ s3 w3, lc2L s1.length ck g mt mi1 g1 mt1 el vs1 (wipeN e vs) (items.drop (i + 1)) s3 = some sF ∧ W.le ⟨w1.F, w1.ρ ++ [D]⟩ w3 ∧ Ok (ba X) w3 s3 H3, fun H3 h3 => ⟨items.length - (i + 1), by omega, rfl, hlt, h3⟩, fun v H4 y => ?_⟩
          obtain ⟨w4, l4, g4, v4⟩ := yl v H4 y
          cases hgx : g items[i] (wipeN e vs) with
          | none => rw [hgx] at hf; cases hf
          | some e3 =>
            rw [hgx] at hf
            refine hG _ _ _ _ _ _ _ _ hgx ⟨w4, g4, slw (l2.trans l4), v4, fun σ5 o l5 => ⟨Z.wipe_off o, ?_⟩⟩
            cases hM : mt e3 s2 with
            | none => simp only [hM] at hf; cases hf
            | some z =>
              obtain ⟨bb, s5⟩ := z
              simp only [hM] at hf
              refine hT _ _ _ _ _ _ _ hM ⟨w4, g4, l5, fun w6 H6 l6 g6 => ?_⟩
              cases bb with
              | false =>
                dsimp only
                rw [if_neg Bool.false_ne_true]
                exact ⟨s5, w6, hf, (l2.trans l4).trans l6, g6⟩
              | true =>
                dsimp only
                rw [if_pos rfl]
                cases hI1 : mi1 e3 s5 with
                | none => simp only [hI1] at hf; cases hf
                | some z =>
                  obtain ⟨items1, ckI, s7⟩ := z
                  simp only [hI1] at hf
                  cases hL : lcL s1.length ckI g1 mt1 el (wipeN e3 vs1) items1 s7 with
                  | none => simp only [hL] at hf; cases hf
                  | some sI =>
                    simp only [hL] at hf
                    refine hw1 _ _ _ _ _ _ _ _ hI1 ⟨w6, g6, l5.up l6, fun J1 w7 H7 l7 g7 ck7 wkI => ?_⟩
                    have l17 := ((l2.trans l4).trans l6).trans l7
                    refine ⟨fun j kk H' => kk = items1.length - j ∧ j ≤ items1.length ∧ ∃ s8 w8, lcL s1.length ckI g1 mt1 el (wipeN e3 vs1) (items1.drop j) s8 = some sI ∧ w7.le w8 ∧ Ok (ba X) w8 s8 H', ⟨_, rfl, Nat.zero_le _, s7, w7, hL, W.le.refl _, g7⟩, ?_⟩
                    rintro j kk H8 ⟨rfl, hj', s8, w8, hf8, l8, g8⟩
                    by_cases hlj : j < items1.length
                    · rw [List.drop_eq_getElem_cons hlj] at hf8
                      unfold lcL at hf8
                      split at hf8
                      · rename_i hckj
                        obtain ⟨wkJ, _⟩ := wkI w8 s8 H8 l8 g8 hckj
                        obtain ⟨goj, ylj⟩ := wkJ j items1[j] (List.getElem?_eq_getElem hlj)
                        refine .inr ⟨goj, fun H3 => ∃ s3 w3, lcL s1.length ckI g1 mt1 el (wipeN e3 vs1) (items1.drop (j + 1)) s3 = some sI ∧ w7.le w3 ∧ Ok (ba X) w3 s3 H3, fun H3 h3 => ⟨items1.length - (j + 1), by omega, rfl, hlj, h3⟩, fun v9 H9 y9 => ?_⟩
                        obtain ⟨w9, l9, g9, v9'⟩ := ylj v9 H9 y9
                        cases hgy : g1 items1[j] (wipeN e3 vs1) with
                        | none => rw [hgy] at hf8; cases hf8
                        | some e9 =>
                          rw [hgy] at hf8
                          have sl9 : Sl (ba X) w9 (wipeN e3 vs1) (wipe σ5 vs1) := (l5.up (((l6.trans l7).trans l8).trans l9)).wipe vs1
                          refine hG1 _ _ _ _ _ _ _ _ hgy ⟨w9, g9, sl9, v9', fun σ9 o9 lo9 => ⟨Z.wipe_off o9, ?_⟩⟩
                          cases hM1 : mt1 e9 s8 with
                          | none => simp only [hM1] at hf8; cases hf8
                          | some z =>
                            obtain ⟨b2, s10⟩ := z
                            simp only [hM1] at hf8
                            refine hT1 _ _ _ _ _ _ _ hM1 ⟨w9, g9, lo9, fun w10 H10 l10 g10 => ?_⟩
                            cases b2 with
                            | false =>
                              dsimp only
                              rw [if_neg Bool.false_ne_true]
                              exact ⟨s10, w10, hf8, (l8.trans l9).trans l10, g10⟩
                            | true =>
                              dsimp only
                              rw [if_pos rfl]
                              cases hE2 : el e9 s10 with
                              | none => simp only [hE2] at hf8; cases hf8
                              | some z =>
                                obtain ⟨yd, s11⟩ := z
                                simp only [hE2] at hf8
                                refine hE _ _ _ _ _ _ _ hE2 ⟨w10, g10, lo9.up l10, fun u w11 H11 l11 g11 v11 => ?_⟩
                                have l711 := ((l8.trans l9).trans l10).trans l11
                                have at11 : w11.ρ[s1.length]? = some D := pre_get (l17.trans l711).ρ atD
                                split at hf8
                                · rename_i acc e8
                                  split at hf8
                                  · rename_i hl
                                    obtain ⟨a9, vs9, q1, q2, q3, q4⟩ := chg_lst (v := .ref D) g11 ⟨D, at11, rfl⟩ e8
                                    cases q1
                                    exact ⟨vs9, q2, by rw [q3.len]; exact Nat.lt_trans hl lim_lt, _, w11, hf8, l711, q4 _ _ (q3.app ⟨v11, trivial⟩)⟩
                                  · cases hf8
                                · cases hf8
                      · cases hf8
                    · have ej : j = items1.length := by omega
                      subst ej
                      rw [List.drop_length] at hf8
                      unfold lcL at hf8
                      split at hf8
                      · rename_i hckj
                        cases hf8
                        obtain ⟨_, stj⟩ := wkI w8 _ H8 l8 g8 hckj
                        exact .inl ⟨stj, _, w8, hf, l17.trans l8, g8⟩
                      · cases hf8
        · cases hf
      · have e' : i = items.length := by omega
        subst e'
        rw [List.drop_length] at hf
        unfold lc2L at hf
        split at hf
        · rename_i hck
          cases hf
          obtain ⟨_, st⟩ := wk w2 _ H' (lD.trans l2) g2 hck
          obtain ⟨w3, a1, a2, a3⟩ := mkFin_ok h g1' (lD.trans l2) (pre_get l2.ρ atD) g2
          exact .inl ⟨st, k _ w3 H' (l1.trans a1) a2 a3⟩
        · cases hf
    · cases h
  · cases h
section
variable {scope : Scope} {own : List (Str × Nat)} {ow : Bool} {vs vs1 : List Nat} {mi mi1 : MI} {g g1 : MG} {mt1 : MT} {el : ME}
theorem n_lc2 (hi : NI X tg iter mi) (hg : ∀ z, NG (bl X scope z) tg vs g) (ht : ∀ z, NTs (bl X scope z) ifs mt) (hi1 : ∀ z, NI (bl X scope z) tg1 iter1 mi1) (hg1 : ∀ z, NG (bl X scope z) tg1 vs1 g1) (ht1 : ∀ z, NTs (bl X scope z) ifs1 mt1) (he : ∀ z, NE (bl X scope z) elt el) (hN : X.N.Nodup) (ok : BlkOk X.N X.env.scope scope own) (hvs : own.map (·.2) = vs := by rfl) (hv : ∀ i ∈ vs1, i ∈ own.map (·.2) := by decide) (hc : X.calm = true := by rfl) (hs : ∀ x, foldedSetIterable iter X.env x = pure x := by intro _; rfl) (hs1 : ∀ env x, foldedSetIterable iter1 env x = pure x := by intro _ _; rfl) :
    NE X (.ListComp elt [⟨tg, iter, ifs, 0⟩, ⟨tg1, iter1, ifs1, 0⟩] scope pos) (eLc2 ow vs vs1 mi g mt mi1 g1 mt1 el) := fun e s d s' h => by
  subst hvs
  refine PE.imp (pe_lc2 hc hN hi.fam ok hv (fun sh H C cl fp => (show PG (X.blk sh H scope (compEnvC scope cl C X.env) fp) tg (fun v σ H Q => ∃ s d e e', g d e = some e' ∧ tG (ba X) (own.map (·.2)) s d e e' v σ H Q) from (hg (sh, H, C, cl, fp)).fam))
    (fun sh H C cl fp => (⟨fun pins sh' σ H' Q I ⟨e, s, b, s', hm, q⟩ => (ht (sh, H, C, cl, fp) e s b s' hm).run pins sh' σ H' Q I q⟩ : PTs _ ifs (fun σ H Q => ∃ e s b s', mt e s = some (b, s') ∧ tT (ba X) e s b s' σ H Q)))
    (fun sh H C cl fp => (show PI (X.blk sh H scope (compEnvC scope cl C X.env) fp) tg1 iter1 (fun σ H R => ∃ e s items ck s1, mi1 e s = some (items, ck, s1) ∧ tI (ba X) e s items ck s1 σ H R) from (hi1 (sh, H, C, cl, fp)).fam))
    (fun sh H C cl fp => (show PG (X.blk sh H scope (compEnvC scope cl C X.env) fp) tg1 (fun v σ H Q => ∃ s d e e', g1 d e = some e' ∧ tG (ba X) vs1 s d e e' v σ H Q) from (hg1 (sh, H, C, cl, fp)).fam))
    (fun sh H C cl fp => (⟨fun pins sh' σ H' Q I ⟨e, s, b, s', hm, q⟩ => (ht1 (sh, H, C, cl, fp) e s b s' hm).run pins sh' σ H' Q I q⟩ : PTs _ ifs1 (fun σ H Q => ∃ e s b s', mt1 e s = some (b, s') ∧ tT (ba X) e s b s' σ H Q)))
    (fun sh H C cl fp => (show PE (X.blk sh H scope (compEnvC scope cl C X.env) fp) elt (fun σ H Q => ∃ e s d s', el e s = some (d, s') ∧ tE (ba X) e s d s' σ H Q) from (he (sh, H, C, cl, fp)).fam)) hs hs1) ?_
  exact lc2_run h (fun items ck s1 σ H R h1 h2 => ⟨e, s, items, ck, s1, h1, h2⟩) (fun e s items ck s1 σ H R h1 h2 => ⟨e, s, items, ck, s1, h1, h2⟩) (fun s d e e' v σ H Q h1 h2 => ⟨s, d, e, e', h1, h2⟩) (fun s d e e' v σ H Q h1 h2 => ⟨s, d, e, e', h1, h2⟩) (fun e s b s' σ H Q h1 h2 => ⟨e, s, b, s', h1, h2⟩) (fun e s b s' σ H Q h1 h2 => ⟨e, s, b, s', h1, h2⟩) (fun e s d s' σ H Q h1 h2 => ⟨e, s, d, s', h1, h2⟩)
end
end
end N

namespace N
open PySem L2 PyProof.Rows
open Z (Ext dpUp dpsUp dpsLen dpsGet DxO KyD DEn Cl cut offv bl Dfn)

section
variable {X : Cx} {pins : List (Addr × Obj)} {σ : L2.St} {H : Hp} {s : Shared}
end

theorem DR.keys {B : Ba} {w : W} : ∀ {xs : List DEn} {kvs : List (PyData × D)}, DR B w xs kvs → xs.map (·.1) = kvs.map (·.1)
  | [], [], _ => rfl
  | e :: xs, kv :: kvs, ⟨h1, h2⟩ => by rw [List.map_cons, List.map_cons, h1.1, DR.keys h2]
  | [], _ :: _, h => h.elim
  | _ :: _, [], h => h.elim
section
variable {X : Cx}
theorem tup_ints {H : Hp} {w : W} {v : V} {xs : List PyData} {ns : List Int} {s : Sto} (G : Ok (ba X) w s H) (hv : VR (ba X) w v (.d (.tuple xs))) (e : intsOf (xs.map .d) = some ns) : ∃ a, v = .ref a ∧ SqT X.K H a (ns.map V.int) := by
  obtain ⟨a, vs, rfl, h1, h2⟩ := dp_tup hv
  have h3 : VRs (ba X) w vs (xs.map .d) := VRs.data.mpr h2
  rw [ints_eq e] at h3
  have := vrs_ints h3
  subst this
  exact ⟨a, rfl, G.ext.t h1⟩
end
end N

namespace N
open PySem L2 PyProof.Rows
open Z (Ext dpUp dpsUp dpsLen dpsGet DxO KyD DEn Cl cut offv bl Dfn)

section
variable {X : Cx} {pins : List (Addr × Obj)} {σ : L2.St} {H : Hp} {s : Shared}
end
end N

namespace N
open PySem L2 PyProof.Rows

theorem safe_self (s : Sto) : Safe s s := ⟨Nat.le_refl _, fun j c _ h => .inl h⟩
theorem safe_app (s g : Sto) : Safe s (s ++ g) := ⟨by simp, fun j c hj h => .inl (by rwa [List.getElem?_append_left hj] at h)⟩
@[simp] theorem trim_self (s : Sto) : trim s s = s := by unfold trim; rw [if_pos (safe_self s), List.take_length]
@[simp] theorem trim_app (s g : Sto) : trim s (s ++ g) = s := by unfold trim; rw [if_pos (safe_app s g), List.take_left]
@[simp] theorem trimE_self (s : Sto) (e : Lo) : trimE s e s = s := by unfold trimE; split <;> simp
@[simp] theorem ret_d (own : Bool) (s : Sto) (x : PyData) (s' : Sto) : ret own s (.d x) s' = some (.d x, trim s s') := rfl
theorem ck_none (s : Sto) : chkOk none s := trivial
theorem lcL_pure {k : Nat} {ck : Option (Nat × List D)} {g : MG} {mt : MT} {el : ME} {e0 : Lo} {s : Sto} {α : Type} {enc : α → D} (f : α → D) (p : α → Bool) (hk : k = s.length) (hck : ∀ acc, chkOk ck (s ++ [.lst acc])) : ∀ (l : List α) (acc : List D), (∀ x ∈ l, ∀ acc, ∃ e1, g (enc x) e0 = some e1 ∧ mt e1 (s ++ [.lst acc]) = some (p x, s ++ [.lst acc]) ∧ (p x = true → el e1 (s ++ [.lst acc]) = some (f x, s ++ [.lst acc]))) → acc.length + l.length ≤ lim →
    lcL k ck g mt el e0 (l.map enc) (s ++ [.lst acc]) = some (s ++ [.lst (acc ++ (l.filter p).map f)])
  | [], acc, _, _ => by
    rw [List.map_nil]
    unfold lcL
    rw [if_pos (hck acc)]
    simp
  | x :: l, acc, h, hl => by
    obtain ⟨e1, h1, h2, h3⟩ := h x List.mem_cons_self acc
    rw [List.map_cons]
    unfold lcL
    rw [if_pos (hck acc)]
    simp only [h1, h2]
    rw [List.length_cons] at hl
    cases hp : p x with
    | false =>
      simp only []
      rw [lcL_pure f p hk hck l acc (fun y hy => h y (List.mem_cons_of_mem _ hy)) (by omega), List.filter_cons_of_neg (by simp [hp])]
    | true =>
      simp only [h3 hp]
      subst hk
      rw [List.getElem?_append_right (Nat.le_refl _), Nat.sub_self]
      simp only [List.getElem?_cons_zero]
      rw [if_pos (by omega), List.set_append_right _ _ (Nat.le_refl _), Nat.sub_self]
      simp only [List.set_cons_zero]
      rw [lcL_pure f p rfl hck l _ (fun y hy => h y (List.mem_cons_of_mem _ hy)) (by rw [List.length_append]; simp; omega), List.filter_cons_of_pos hp]
      simp
theorem lcFin_d (s : Sto) (xs : List PyData) : lcFin false s (s ++ [.lst (xs.map .d)]) = some (.d (.list xs), s) := by
  unfold lcFin
  rw [List.getElem?_append_right (Nat.le_refl _), Nat.sub_self]
  simp only [List.getElem?_cons_zero, data_map, Bool.false_eq_true, if_false]
  congr 2
  rw [List.set_append_right _ _ (Nat.le_refl _)]
  exact trim_app _ _
theorem eLc_d {vs : List Nat} {mi : MI} {g : MG} {mt : MT} {el : ME} {e : Lo} {s s1 : Sto} {α : Type} {enc : α → D} {l : List α} (f : α → PyData) (p : α → Bool) (hi : mi e s = some (l.map enc, none, s1)) (h : ∀ x ∈ l, ∀ acc, ∃ e1, g (enc x) (wipeN e vs) = some e1 ∧ mt e1 (s1 ++ [.lst acc]) = some (p x, s1 ++ [.lst acc]) ∧ (p x = true → el e1 (s1 ++ [.lst acc]) = some (.d (f x), s1 ++ [.lst acc]))) (hl : l.length ≤ lim) :
    eLc false vs mi g mt el e s = some (.d (.list ((l.filter p).map f)), s1) := by
  unfold eLc
  simp only [hi]
  rw [lcL_pure (fun x => .d (f x)) p rfl (fun _ => ck_none _) l [] h (by simpa using hl)]
  simp only [List.nil_append]
  have := lcFin_d s1 ((l.filter p).map f)
  rw [List.map_map] at this
  exact this
/-- .. whose turns change the store below: what is kept -/
theorem lcL_inv {k : Nat} {g : MG} {mt : MT} {el : ME} {e0 : Lo} {α : Type} {enc : α → D} (Iv : Nat → List D → Sto → Prop) (hk : ∀ i acc s, Iv i acc s → s.length = k) : ∀ (l : List α) (n : Nat) (acc : List D) (s : Sto), (∀ i x acc s, l[i]? = some x → Iv (n + i) acc s → ∃ e1, g (enc x) e0 = some e1 ∧ ((∃ s', mt e1 (s ++ [.lst acc]) = some (false, s' ++ [.lst acc]) ∧ Iv (n + i + 1) acc s') ∨
      ∃ s1 y s', mt e1 (s ++ [.lst acc]) = some (true, s1) ∧ el e1 s1 = some (y, s' ++ [.lst acc]) ∧ Iv (n + i + 1) (acc ++ [y]) s')) → acc.length + l.length ≤ lim → Iv n acc s →
    ∃ acc' s', lcL k none g mt el e0 (l.map enc) (s ++ [.lst acc]) = some (s' ++ [.lst acc']) ∧ Iv (n + l.length) acc' s'
  | [], n, acc, s, h, hl, h0 => by
    rw [List.map_nil]
    unfold lcL
    rw [if_pos (ck_none _)]
    exact ⟨acc, s, rfl, h0⟩
  | x :: l, n, acc, s, h, hl, h0 => by
    obtain ⟨e1, h1, h2⟩ := h 0 x acc s rfl h0
    rw [List.map_cons]
    unfold lcL
    rw [if_pos (ck_none _)]
    simp only [h1]
    rw [List.length_cons] at hl
    have en : n + 1 + l.length = n + (x :: l).length := by simp; omega
    have hh : ∀ i y acc s, l[i]? = some y → Iv (n + 1 + i) acc s → _ := fun i y acc s hy hi => by
      have := h (i + 1) y acc s (by simpa using hy) (by rw [show n + (i + 1) = n + 1 + i by omega]; exact hi)
      rw [show n + (i + 1) = n + 1 + i by omega] at this
      exact this
    rcases h2 with ⟨s', h3, h4⟩ | ⟨s1, y, s', h3, h4, h5⟩
    · simp only [h3]
      obtain ⟨acc', s2, h6, h7⟩ := lcL_inv Iv hk l (n + 1) acc s' hh (by omega) h4
      exact ⟨acc', s2, h6, by rw [← en]; exact h7⟩
    · simp only [h3, h4]
      have hk' := hk _ _ _ h5
      rw [List.getElem?_append_right (by omega), show k - s'.length = 0 by omega]
      simp only [List.getElem?_cons_zero]
      rw [if_pos (by omega), List.set_append_right _ _ (by omega), show k - s'.length = 0 by omega]
      simp only [List.set_cons_zero]
      obtain ⟨acc', s2, h6, h7⟩ := lcL_inv Iv hk l (n + 1) (acc ++ [y]) s' hh (by rw [List.length_append]; simp; omega) h5
      exact ⟨acc', s2, h6, by rw [← en]; exact h7⟩
end N

namespace N
open PySem L2 PyProof.Rows
open Z (Ext dpUp dpsUp dpsLen dpsGet DxO KyD DEn)
section
variable {X : Cx} {a b : Expr} {ms : MA} {pos : Pos}
end
end N



namespace N
open PySem L2 PyProof.Rows
open Z (Ext dpUp dpsUp dpsLen dpsGet DxO KyD DEn)
def isB (c : Bool) : D → Bool
  | .d (.bool b) => decide (b = c)
  | _ => false
def cIsB (neg : Bool) : FC := fun s a b => match b with
  | .d (.bool c) => some (if neg then !isB c a else isB c a)
  | _ => none
section
variable {s : Sto}
@[simp] theorem v_isB (a : D) (c : Bool) : cIsB false s a (.d (.bool c)) = some (isB c a) := rfl
@[simp] theorem v_isnB (a : D) (c : Bool) : cIsB true s a (.d (.bool c)) = some (!isB c a) := rfl
@[simp] theorem isB_b (b c : Bool) : isB c (.d (.bool b)) = decide (b = c) := rfl
end
end N

namespace N
open PySem L2 PyProof.Rows
open Z (Ext dpUp dpsUp dpsLen dpsGet DxO KyD DEn Dfn)
def ddI : List Int → List Int
  | [] => []
  | a :: l => if a ∈ l then ddI l else a :: ddI l
theorem ddI_mem {x : Int} : ∀ {l : List Int}, x ∈ ddI l ↔ x ∈ l
  | [] => Iff.rfl
  | a :: l => by
    unfold ddI
    split
    · rename_i h
      rw [ddI_mem, List.mem_cons]
      exact ⟨.inr, fun k => k.elim (fun e => e ▸ h) id⟩
    · rw [List.mem_cons, List.mem_cons, ddI_mem]
theorem ddI_nd : ∀ l : List Int, (ddI l).Nodup
  | [] => List.nodup_nil
  | a :: l => by
    unfold ddI
    split
    · exact ddI_nd l
    · rename_i h
      exact List.nodup_cons.mpr ⟨fun k => h (ddI_mem.mp k), ddI_nd l⟩
def ascI (l : List Int) : List Int := (ddI l).mergeSort fun a b => decide (a ≤ b)
theorem ascI_mem {l : List Int} {x : Int} : x ∈ ascI l ↔ x ∈ l := by
  unfold ascI
  rw [List.mem_mergeSort]
  exact ddI_mem
theorem two_lt {l m : List Int} (h : l.Pairwise (· < ·)) (h' : m.Pairwise (· < ·)) (e : ∀ x, x ∈ l ↔ x ∈ m) : l = m :=
  List.Perm.eq_of_pairwise (le := fun a b : Int => a < b) (fun a b _ _ h1 h2 => by omega) h h' ((List.perm_ext_iff_of_nodup (h.imp fun {a b} hab => by omega) (h'.imp fun {a b} hab => by omega)).mpr e)
theorem ascI_lt (l : List Int) : (ascI l).Pairwise (· < ·) := by
  have h1 : (ascI l).Pairwise fun a b => decide (a ≤ b) = true := List.pairwise_mergeSort (le := fun a b : Int => decide (a ≤ b)) (fun a b c h1 h2 => by simp at h1 h2 ⊢; omega) (fun a b => by simp; omega) _
  have h2 : (ascI l).Nodup := (List.mergeSort_perm _ _).nodup_iff.mpr (ddI_nd _)
  refine (h1.and h2).imp fun {a b} h => ?_
  have := of_decide_eq_true h.1
  have := h.2
  omega

section
variable {P : Program} {w : World} {A : Around} {E : Value → Shared → Prop} {s : Shared}
open Z (set0)
theorem call_setLI {l : Addr} {its : Array Value} (ns : List Int) {Q : Value → Shared → Prop} (hh : A.handled = none) (hl : s.heap.IsList l its) (hit : IntsAre its.toList ns) (few : ns.length < 60)
    (fin : ∀ (h' : Heap) (tk c : Nat), SetR w h' s.heap.objs.size (fun j => decide (j ∈ ns)) c → c ≤ ns.length → (∀ b o, s.heap.get? b = some o → h'.get? b = some o) → Q (.ref s.heap.objs.size) { s with heap := h', toks := tk }) :
    wpAny (model P w) A (call (.type "set") [.ref l]) Q E s := by
  have sz : its.size = ns.length := by
    have := IntsAre.length hit
    simpa using this
  obtain ⟨c, tl, hmro⟩ := F.called_set.mro
  have hmade := F.called_set.made
  have hsub := F.called_set.sub
  refine wpAny_call (codeAny_of_tree ?_)
  show wpAny _ _ (callAny (.type "set") _) _ _ _
  refine wpAny_pure ⟨Code.quiet_builtin _ (by decide +kernel), codeAny_builtin F.entry_type_call ?_⟩
  rw [Around.under_plain (weight_type_call_type "set" [.ref l] []) rfl]
  have n1 := F.called_set.notType
  have n2 := F.called_set.canCreate
  have n3 := F.typeCall_set_1 (.ref l)
  repeat (any_goals (first | assumption | wp_step))
  refine codeAny_mono (code_set_led1 (.ref l) (E := E) (Q₁ := fun ob s1 => ob = .ref s.heap.objs.size ∧ s1 = { s with heap := s.heap.push (set0 w) }) ⟨rfl, rfl⟩) fun r s1 hr => ?_
  cases r with
  | error e => exact hr
  | ok fl =>
    cases fl with
    | ret ob =>
      obtain ⟨rfl, rfl⟩ := hr
      have at0 : (s.heap.push (set0 w)).get? s.heap.objs.size = some (set0 w) := Heap.get?_push_size _ rfl
      have ty : Shared.TypeIs { s with heap := s.heap.push (set0 w) } (.ref s.heap.objs.size) "set" := ⟨_, at0, rfl⟩
      have i1 := F.called_set.init.lookup
      have i2 := F.called_set.init.bind (.ref s.heap.objs.size)
      repeat (any_goals (first | assumption | wp_step))
      refine codeAny_mono (codeAny_call_builtin (R := wants (fun r s2 => r = .none ∧ ∃ h' tk c, s2 = { s with heap := h', toks := tk } ∧ SetR w h' s.heap.objs.size (fun j => decide (j ∈ ns)) c ∧ c ≤ ns.length ∧ ∀ b o, s.heap.get? b = some o → h'.get? b = some o) E)
        F.called_set.init.plain F.entry_set_init (check_set_init_1 ty ?_)) fun r2 s2 hr2 => ?_
      · obtain ⟨ol, o1, o2, nl, o3⟩ := hl
        obtain ⟨kc, kd, kt, ksl⟩ := ol
        simp only at o2 o3
        subst o2 o3
        have o4 : (s.heap.push (set0 w)).get? l = some { cls := .type "list", dict := kd, data := .seq its nl, slots := ksl } := Heap.get?_push_of_some _ o1
        have f1 := F.sub_list_set
        have f2 := F.sub_list_frozenset
        have f3 : (Value.type "list" == Value.type "dict") = false := by decide
        have l1 : (s.heap.push (set0 w)).IsList l its := ⟨_, o4, rfl, nl, rfl⟩
        unfold Builtin.«set.__init__» noKeywords Builtin.Frozenset.updateFrom
        generalize hPI : pyIter = PI
        wp_walk
        subst hPI
        refine wpAny_pyIter_list l1 ?_
        refine wpAny_bind (wpAny_runValue ?_)
        have ls : l < s.heap.objs.size := Heap.lt_size o1
        have h3 : A.in1.in1.in1.handled = none := by simp [hh]
        have s1 : (s.heap.push (set0 w)).objs.size = s.heap.objs.size + 1 := Heap.size_push ..
        have ne1 : l ≠ (s.heap.push (set0 w)).objs.size := by rw [s1]; exact Nat.ne_of_lt (Nat.lt_succ_of_lt ls)
        have ne2 : s.heap.objs.size ∉ [(s.heap.push (set0 w)).objs.size, l] := by
          rw [s1]
          simp only [List.mem_cons, List.not_mem_nil, or_false, not_or]
          exact ⟨Nat.ne_of_lt (Nat.lt_succ_self _), Nat.ne_of_gt ls⟩
        have val : ∀ (i : Nat) (v : Value), its[i]? = some v → ∃ k t, ns[i]? = some k ∧ v = .int k t := fun i v hv => by
          have lt : i < ns.length := by rw [← sz]; exact (Array.getElem?_eq_some_iff.mp hv).1
          obtain ⟨t, e⟩ := IntsAre.int_at hit i v (by rw [Array.getElem?_toList]; exact hv)
          refine ⟨ns[i], t, List.getElem?_eq_getElem lt, ?_⟩
          rw [e, List.getD_eq_getElem?_getD, List.getElem?_eq_getElem lt]
          rfl
        refine set_update_ints ((Walks.list h3 _ l ne1 its).toS) s.heap.objs.size ne2 ns sz (by unfold scanBound; omega) val (its.size - 0) 0 _ (by omega) (Nat.zero_le _)
          ⟨⟨_, Heap.get?_push_size _ rfl, rfl, rfl⟩, (l1.push _)⟩ ⟨0, Nat.le_refl _, setR_new_at (Heap.get?_push_of_some _ at0)⟩ ?ff
        case ff =>
          intro s' c' hm hc R1
          obtain ⟨h', g2, d', tk', os'⟩ := s'
          have eg : g2 = s.gens := hm.gens
          have ed : d' = s.drawn := hm.drawn
          have eo : os' = s.os := hm.os
          subst eg ed eo
          show wpAny _ _ _ _ _ _
          refine wpAny_pure ?_
          show wpAny _ _ (PySem.ret Value.none) _ _ _
          rw [sz] at hc
          refine wpAny_pure ⟨rfl, h', tk', c', rfl, R1, hc, fun b o e => ?_⟩
          have b0 : b < s.heap.objs.size := Heap.lt_size e
          refine hm.heap b o ?_ (Heap.get?_push_of_some _ (Heap.get?_push_of_some _ e))
          rw [s1]
          simp only [List.mem_cons, List.not_mem_nil, or_false, not_or]
          exact ⟨Nat.ne_of_lt b0, Nat.ne_of_lt (Nat.lt_succ_of_lt b0)⟩
      · cases r2 with
        | error e => exact hr2
        | ok fl2 =>
          cases fl2 with
          | ret r =>
            obtain ⟨rfl, h', tk, c, rfl, R1, hc, k⟩ := hr2
            repeat (any_goals (first | assumption | wp_step))
            exact fin _ _ _ R1 hc k
          | _ => exact hr2.elim
    | _ => exact hr.elim
end
section
variable {X : Cx} {e : Expr} {m : ME} {pos p p2 q : Pos}
def rSetI (K : PySem.W.Frag) (w : World) : List V → Hp → VK → Prop := fun vs H Q => ∃ (l : Addr) (ns : List Int), vs = [V.ref l] ∧ (SqT K H l (ns.map V.int) ∨ SqL K H l (ns.map V.int)) ∧ ns.length < 60 ∧ ∀ (b : Addr) (c : Nat), c ≤ ns.length → H b = none → Q (.ref b) (upd H b (SetO w b (fun j => decide (j ∈ ns)) c))
theorem cr_setI (hk : X.calm = true) : CallR X (.type "set") (rSetI X.K X.w) := by
  intro pins s σ H vs us Q I rr hh
  obtain ⟨l, ns, rfl, hq, few, fin⟩ := hh
  rw [Vals.ref1 rr]
  rcases hq with hq | hq
  · obtain ⟨its, rv, pt, _⟩ := I.tuple hq
    refine call_set_tupI ns (I.ok.hd hk) (show s.heap.IsTuple l its.toArray from pt) (ints_of_vals rv) (by unfold scanBound; omega) fun h2 tk c R1 hc k => ?_
    exact ⟨.ref _, upd H s.heap.objs.size (SetO X.w s.heap.objs.size (fun j => decide (j ∈ ns)) c), I.laid (t' := tk) k (Nat.le_refl _) (setO_new R1), rfl, fin _ c hc (I.hok.fresh (Nat.le_refl _))⟩
  · obtain ⟨its, rv, pl, _⟩ := I.list hq
    refine call_setLI ns (I.ok.hd hk) pl.isList (by simpa using ints_of_vals rv) few fun h2 tk c R1 hc k => ?_
    exact ⟨.ref _, upd H s.heap.objs.size (SetO X.w s.heap.objs.size (fun j => decide (j ∈ ns)) c), I.laid (t' := tk) k (Nat.le_refl _) (setO_new R1), rfl, fin _ c hc (I.hok.fresh (Nat.le_refl _))⟩
def eSrtSetI (own : Bool) (m : ME) : ME := fun e s => match m e s with
  | some (.d (.tuple xs), s1) => match intsOf (xs.map .d) with
    | some ns => if ns.length < 60 then mkL own s1 ((ascI ns).map fun i => .d (.int i)) else none
    | none => none
  | some (.d (.list xs), s1) => match intsOf (xs.map .d) with
    | some ns => if ns.length < 60 then mkL own s1 ((ascI ns).map fun i => .d (.int i)) else none
    | none => none
  | _ => none
theorem lst_ints {H : Hp} {w : W} {v : V} {xs : List PyData} {ns : List Int} {s : Sto} (G : Ok (ba X) w s H) (hv : VR (ba X) w v (.d (.list xs))) (e : intsOf (xs.map .d) = some ns) : ∃ a, v = .ref a ∧ SqL X.K H a (ns.map V.int) := by
  obtain ⟨lp, vs, rfl, hS, h2⟩ := asL_ok (s := s) (ds := xs.map .d) rfl G hv
  refine ⟨lp, rfl, ?_⟩
  have e2 := ints_eq e
  rw [e2] at h2
  have : ∀ (ns : List Int) (vs : List V), VRs (ba X) w vs (ns.map fun i => D.d (.int i)) → vs = ns.map V.int := fun ns => by
    induction ns with
    | nil =>
      intro vs h
      cases vs with
      | nil => rfl
      | cons v vs => exact h.elim
    | cons a ns ih =>
      intro vs h
      cases vs with
      | nil => exact h.elim
      | cons v vs =>
        have h1 : v = .int a := by
          have := h.1
          cases this
          rfl
        rw [List.map_cons, h1, ih vs h.2]
  rw [← this ns vs h2]
  exact hS
theorem n_srtSetI {own : Bool} (ha : NE X e m) (m1 : X.mg "sorted" = none) (m2 : X.mg "set" = none) (hk : X.calm = true := by rfl)
    (c1 : Z.Cl X "sorted" (.Call (.Name "set" p2) [e] [] q) [] pos := by exact ⟨rfl, rfl, rfl⟩) (c2 : Z.Cl X "set" e [] q := by exact ⟨rfl, rfl, rfl⟩) :
    NE X (.Call (.Name "sorted" p) [.Call (.Name "set" p2) [e] [] q] [] pos) (eSrtSetI own m) := fun el s d s' h => by
  have go : ∀ {y : PyData} {s1 : Sto} {ns : List Int}, m el s = some (.d y, s1) → ns.length < 60 → mkL own s1 ((ascI ns).map fun i => .d (.int i)) = some (d, s') → (∀ {v : V} {w : W} {H : Hp}, Ok (ba X) w s1 H → VR (ba X) w v (.d y) → ∃ l, v = .ref l ∧ (SqT X.K H l (ns.map V.int) ∨ SqL X.K H l (ns.map V.int))) →
      PE X (.Call (.Name "sorted" p) [.Call (.Name "set" p2) [e] [] q] [] pos) (tE (ba X) el s d s') := fun {y s1 ns} e1 few h hsq => by
    refine PE.imp (pe_callB (cr_sortedSet hk) c1.1 m1 (by decide +kernel) (pa_cons (pe_callTy (cr_setI hk) c2.1 m2 (by decide +kernel) (pa_cons (ha _ _ _ _ e1) pa_nil c2.2.1) (by decide) (by decide) c2.2.1 c2.2.2) pa_nil c1.2.1) (by decide) (by decide) c1.2.1 c1.2.2) fun σ H Q ⟨w, g, l, k⟩ => ?_
    refine ⟨w, g, l, fun u w1 H1 l1 g1 v1 => ?_⟩
    obtain ⟨lp, rfl, hS⟩ := hsq g1 v1
    refine ⟨lp, ns, rfl, hS, few, fun b c hc hb => ?_⟩
    have g2 := g1.ign (o := SetO X.w b (fun j => decide (j ∈ ns)) c) hb
    refine ⟨b, _, c, rfl, upd_same, by omega, fun os b2 h1 h2 h3 h4 => ?_⟩
    have eo : os = ascI ns := two_lt h1 (ascI_lt ns) fun x => by rw [h2, ascI_mem, decide_eq_true_eq]
    subst eo
    obtain ⟨w3, l3, g3, v3⟩ := mkL_ok (vs := (ascI ns).map V.int) h g2 h4 (by
      have : ∀ l : List Int, VRs (ba X) w1 (l.map V.int) (l.map fun i => D.d (.int i)) := fun l => by
        induction l with
        | nil => trivial
        | cons a l ih => exact ⟨vi, ih⟩
      exact this _)
    exact k _ w3 _ (l1.trans l3) g3 v3
  unfold eSrtSetI at h
  split at h
  · rename_i xs s1 e1
    split at h
    · rename_i ns e2
      split at h
      · rename_i few
        exact go e1 few h fun {v w H} g1 v1 => by
          obtain ⟨lp, h1, h2⟩ := tup_ints g1 v1 e2
          exact ⟨lp, h1, .inl h2⟩
      · cases h
    · cases h
  · rename_i xs s1 e1
    split at h
    · rename_i ns e2
      split at h
      · rename_i few
        exact go e1 few h fun {v w H} g1 v1 => by
          obtain ⟨lp, h1, h2⟩ := lst_ints g1 v1 e2
          exact ⟨lp, h1, .inr h2⟩
      · cases h
    · cases h
  · cases h
end

section
variable {P : Program} {w : World} {A : Around} {E : Value → Shared → Prop} {s : Shared}
end
section
variable {X : Cx} {a b c : Expr} {ta tb tc : TE} {pos p : Pos}
variable {x y : Str} {pa pb pc pd px py : Pos} {ja jb : Nat}
end
end N

namespace N
open PySem L2 PyProof.Rows
open Z (Ext dpUp dpsUp dpsLen dpsGet DxO KyD DEn Cl cut offv bl Dfn)

structure PrE where
  T : Addr
  b : Addr
  k : PyData
  v : V
def EntOk : List PrE → List DEn → Prop
  | [], [] => True
  | p :: ps, x :: xs => (x.1 = p.k ∧ x.2.1 = p.b ∧ RelV p.v x.2.2) ∧ EntOk ps xs
  | _, _ => False
theorem EntOk.len : ∀ {ps : List PrE} {xs : List DEn}, EntOk ps xs → xs.length = ps.length
  | [], [], _ => rfl
  | _ :: _, _ :: _, ⟨_, h⟩ => by rw [List.length_cons, List.length_cons, EntOk.len h]
  | [], _ :: _, h => h.elim
  | _ :: _, [], h => h.elim
theorem EntOk.mem : ∀ {ps : List PrE} {xs : List DEn}, EntOk ps xs → ∀ x ∈ xs, ∃ p ∈ ps, x.1 = p.k ∧ x.2.1 = p.b ∧ RelV p.v x.2.2
  | [], [], _, x, h => by cases h
  | p :: _, _ :: _, ⟨h1, h⟩, x, hx => by
    rcases List.mem_cons.mp hx with rfl | hx
    · exact ⟨p, List.mem_cons_self, h1⟩
    · obtain ⟨q, hq, r⟩ := EntOk.mem h x hx
      exact ⟨q, List.mem_cons_of_mem _ hq, r⟩
  | [], _ :: _, h, _, _ => h.elim
  | _ :: _, [], h, _, _ => h.elim
section
variable {X : Cx} {pins : List (Addr × Obj)} {σ : L2.St} {H : Hp} {s : Shared}
end

noncomputable def dPutAll (kvs : List (PyData × D)) (ps : List (PyData × PyData)) : List (PyData × D) := ps.foldl (fun acc p => dPut acc p.1 (.d p.2)) kvs
section
variable {X : Cx} {B : Ba} {w : W} {H : Hp}
def PrOk (B : Ba) (w : W) : List PrE → List (PyData × PyData) → Prop
  | [], [] => True
  | p :: ps, k :: ks => (p.k = k.1 ∧ SqT B.K w.F p.T [V.ref p.b, p.v] ∧ KyD B.K w.F p.b p.k ∧ VR B w p.v (.d k.2)) ∧ PrOk B w ps ks
  | _, _ => False
theorem PrOk.mem : ∀ {ps : List PrE} {ks : List (PyData × PyData)}, PrOk B w ps ks → ∀ p ∈ ps, SqT B.K w.F p.T [V.ref p.b, p.v] ∧ KyD B.K w.F p.b p.k
  | [], [], _, p, h => by cases h
  | q :: _, _ :: _, ⟨h1, h⟩, p, hp => by
    rcases List.mem_cons.mp hp with rfl | hp
    · exact ⟨h1.2.1, h1.2.2.1⟩
    · exact PrOk.mem h p hp
  | [], _ :: _, h, _, _ => h.elim
  | _ :: _, [], h, _, _ => h.elim
theorem DR.putAll : ∀ {ps : List PrE} {ks : List (PyData × PyData)} {xs : List DEn}, PrOk B w ps ks → EntOk ps xs → ∀ {ys : List DEn} {kvs : List (PyData × D)}, DR B w ys kvs → DR B w (storedAllH ys xs) (dPutAll kvs ks)
  | [], [], [], _, _, _, _, h => h
  | p :: ps, k :: ks, x :: xs, ⟨⟨a1, _, a3, a4⟩, a5⟩, ⟨⟨b1, b2, b3⟩, b4⟩, ys, kvs, h => by
    unfold storedAllH dPutAll
    rw [List.foldl_cons, List.foldl_cons]
    refine DR.putAll a5 b4 ?_
    rw [b1, b2, ← a1]
    exact h.put a3 b3 a4
  | [], _ :: _, _, h, _, _, _, _ => h.elim
  | _ :: _, [], _, h, _, _, _, _ => h.elim
  | [], [], _ :: _, _, h, _, _, _ => h.elim
  | _ :: _, _ :: _, [], _, h, _, _, _ => h.elim
end

section
variable {X : Cx} {pins : List (Addr × Obj)} {σ : L2.St} {H : Hp} {s : Shared}
end
theorem KR.keys {B : Ba} {w : W} : ∀ {xs : List (Key × V)} {kvs : List (Key × D)}, KR B w xs kvs → xs.map (·.1) = kvs.map (·.1)
  | [], [], _ => rfl
  | e :: xs, kv :: kvs, ⟨h1, h2⟩ => by rw [List.map_cons, List.map_cons, h1.1, KR.keys h2]
  | [], _ :: _, h => h.elim
  | _ :: _, [], h => h.elim
section
variable {X : Cx}
end

section
variable {X : Cx} {pins : List (Addr × Obj)} {σ : L2.St} {H : Hp} {s : Shared}
def rUpdK (K : PySem.W.Frag) : V → List V → Hp → VK → Prop := fun x vs H Q => ∃ (a l : Addr) (ps : List Addr) (kvs acc : List (Key × V)), x = V.ref a ∧ vs = [V.ref l] ∧ H a = some (.dK acc) ∧ SqL K H l (ps.map V.ref) ∧ Paired (fun p kv => SqT K H p [kV kv.1, kv.2]) ps kvs ∧
  acc.length + kvs.length ≤ sizeLine ∧ Q .non (upd H a (.dK (mergeK acc kvs)))
theorem mt_updK (hc : X.calm = true) : MtR X "dict.update" (rUpdK X.K) := by
  intro pins s σ H x vs v us Q I rx rv h
  obtain ⟨a, l, ps, kvs, acc, rfl, rfl, ha, hl, hp, hz, q⟩ := h
  cases rx
  rw [Vals.ref1 rv]
  obtain ⟨its, rl, ⟨o, n, e1, e2, e3, e4⟩, hz2⟩ := I.list hl
  obtain ⟨prs, r1, r2, r3⟩ := pairs_of I hp
  obtain ⟨z, hd, vs0, rel, dd⟩ := dk_of I.hok ha
  have lk : kvs.length = prs.length := KV.length r1
  have lv : acc.length = vs0.length := KV.length rel
  have ei := refs_at rl
  have hex : ∀ (j : Nat) (q : Key × Value), prs[j]? = some q → ∃ (b : Addr) (u : Value), ps[j]? = some b ∧ s.heap.IsTuple b #[u, q.2] ∧ keyIs q.1 u = true := r3
  obtain ⟨us, lu, hu⟩ : ∃ us : List Value, us.length = prs.length ∧ ∀ (j : Nat) (q : Key × Value) (u : Value), prs[j]? = some q → us[j]? = some u → ∃ b : Addr, ps[j]? = some b ∧ s.heap.IsTuple b #[u, q.2] ∧ keyIs q.1 u = true := by
    clear r1 r2 lk hz q r3
    have gen : ∀ (prs : List (Key × Value)) (ps : List Addr), (∀ (j : Nat) (q : Key × Value), prs[j]? = some q → ∃ (b : Addr) (u : Value), ps[j]? = some b ∧ s.heap.IsTuple b #[u, q.2] ∧ keyIs q.1 u = true) → ∃ us : List Value, us.length = prs.length ∧ ∀ (j : Nat) (q : Key × Value) (u : Value), prs[j]? = some q → us[j]? = some u → ∃ b : Addr, ps[j]? = some b ∧ s.heap.IsTuple b #[u, q.2] ∧ keyIs q.1 u = true := by
      intro prs
      induction prs with
      | nil => intro ps _; exact ⟨[], rfl, fun j q u h => by simp at h⟩
      | cons q0 prs ih =>
        intro ps hex
        obtain ⟨b, u, e1, e2, e3⟩ := hex 0 q0 rfl
        obtain ⟨us, h1, h2⟩ := ih ps.tail fun j q hj => by
          obtain ⟨b, u, f1, f2, f3⟩ := hex (j + 1) q (by simpa using hj)
          exact ⟨b, u, by rw [List.getElem?_tail]; exact f1, f2, f3⟩
        refine ⟨u :: us, by simp [h1], fun j q w hq hw => ?_⟩
        cases j with
        | zero =>
          rw [List.getElem?_cons_zero] at hq hw
          cases hq; cases hw
          exact ⟨b, e1, e2, e3⟩
        | succ j =>
          rw [List.getElem?_cons_succ] at hq hw
          obtain ⟨b, f1, f2⟩ := h2 j q w hq hw
          exact ⟨b, by rw [List.getElem?_tail] at f1; exact f1, f2⟩
    exact gen prs ps hex
  have zlen : (us.zip (prs.map (·.2))).length = prs.length := by rw [List.length_zip, List.length_map, lu, Nat.min_self]
  have zget : ∀ (j : Nat) (k v : Value), (us.zip (prs.map (·.2)))[j]? = some (k, v) → ∃ q : Key × Value, prs[j]? = some q ∧ us[j]? = some k ∧ v = q.2 := fun j k v hj => by
    rw [List.getElem?_zip_eq_some] at hj
    obtain ⟨h1, h2⟩ := hj
    rw [List.getElem?_map] at h2
    cases hq : prs[j]? with
    | none => rw [hq] at h2; cases h2
    | some q => rw [hq] at h2; cases h2; exact ⟨q, rfl, h1, rfl⟩
  have hal : s.heap.get? a = some o → False := fun e => by
    obtain ⟨o', es, ep, g1, g2, _⟩ := dd
    rw [g1] at e
    cases e
    injection g2.1.symm.trans e2 with e
    exact absurd e (by decide)
  refine call_update_pairs (knd := mixKind X.prog X.w) (acc := vs0) (kvs := prs) (PairArg.list (prog := X.prog) (w := X.w) l its.toArray (fun j => ps[j]?.getD 0) (us.zip (prs.map (·.2)))) (I.ok.hd hc) ⟨⟨o, n, e1, e2, e3, e4⟩, ?_, fun j k v hj => ?_⟩ (fun hm => ?_) ⟨by rw [zlen], fun i key v hr => ?_⟩ dd (by rw [zlen]; omega) fun h' tk hd' hk => ?_
  · rw [List.size_toArray, ei, List.length_map, zlen]
    omega
  · obtain ⟨q, h1, h2, rfl⟩ := zget j k v hj
    obtain ⟨b, f1, f2, _⟩ := hu j q k h1 h2
    simp only [f1, Option.getD_some]
    refine ⟨?_, .inl f2⟩
    rw [List.getElem?_toArray, ei, List.getElem?_map, f1]
    rfl
  · obtain ⟨o', es, ep, g1, g2, _⟩ := dd
    rcases List.mem_cons.mp hm with hm | hm
    · subst hm
      rw [g1] at e1
      cases e1
      injection g2.1.symm.trans e2 with e
      exact absurd e (by decide)
    · obtain ⟨j, hj, e⟩ := List.mem_map.mp hm
      have hj := List.mem_range.mp hj
      rw [zlen] at hj
      obtain ⟨b, f1, f2, _⟩ := hu j prs[j] us[j] (List.getElem?_eq_getElem hj) (List.getElem?_eq_getElem (by omega))
      rw [f1] at e
      obtain rfl : b = a := e
      obtain ⟨o2, k1, k2, _⟩ := f2
      rw [g1] at k1
      cases k1
      injection g2.1.symm.trans k2 with e
      exact absurd e (by decide)
  · obtain ⟨q, h1, h2, rfl⟩ := zget i key v hr
    obtain ⟨b, f1, f2, f3⟩ := hu i q key h1 h2
    exact ⟨q.1, h1, f3⟩
  · have hl2 : (mergeK acc kvs).length ≤ sizeLine := by have := length_mergeK kvs acc; omega
    have he : ∃ q, h'.get? a = some q := let ⟨q, _, _, hq, _⟩ := hd'; ⟨q, hq⟩
    exact ⟨.non, _, I.write (x := a) (e := a) (by rw [ha]; exact True.intro) (.inl rfl) (fun b q hb z => hk b q hb (fun z => nomatch z) z) he (dk_new hl2 hd (r1.merge rel) hd'), rfl, q⟩
end
/-- rows of pairs, keys numbers and texts -/
def kprs : List D → Option (List (Key × PyData))
  | [] => some []
  | .d (.tuple [k, v]) :: r => match keyOf k, kprs r with
    | some kk, some xs => some ((kk, v) :: xs)
    | _, _ => none
  | _ => none
def kPutAll (kvs : List (Key × D)) (ps : List (Key × PyData)) : List (Key × D) := ps.foldl (fun acc p => kPut acc p.1 (.d p.2)) kvs
section
variable {X : Cx} {B : Ba} {w : W} {H : Hp}
theorem kpr_of : ∀ {ds : List D} {vs : List V} {ks : List (Key × PyData)}, VRs B w vs ds → kprs ds = some ks → ∃ (ps : List Addr) (kvs : List (Key × V)), vs = ps.map V.ref ∧ Paired (fun p kv => SqT B.K w.F p [kV kv.1, kv.2]) ps kvs ∧ KR B w kvs (ks.map fun p => (p.1, D.d p.2))
  | [], [], ks, _, h => by cases h; exact ⟨[], [], rfl, .nil, trivial⟩
  | d :: ds, v :: vs, ks, ⟨hv, hr⟩, h => by
    unfold kprs at h
    split at h
    · rename_i h0; cases h0
    · rename_i k x r h0
      injection h0 with e1 e2
      subst e1 e2
      split at h
      · rename_i kk xs ek e
        cases h
        obtain ⟨ps, kvs, h1, h2, h3⟩ := kpr_of hr e
        have hv' : Dp B.K w.F v (.tuple [k, x]) := hv
        obtain ⟨T, us, rfl, hs, hd⟩ := dp_tup hv'
        cases hd with
        | cons d1 d2 =>
          cases d2 with
          | @cons v2 _ _ _ d2 d3 =>
            cases d3
            have hk := keyOf_ok (B := B) (w := w) ek d1
            subst hk
            exact ⟨T :: ps, (kk, v2) :: kvs, by rw [h1]; rfl, .cons hs h2, ⟨rfl, d2⟩, h3⟩
      · cases h
    · cases h
  | [], _ :: _, _, h, _ => h.elim
  | _ :: _, [], _, h, _ => h.elim
theorem KR.putAll : ∀ {ks : List (Key × PyData)} {vk : List (Key × V)}, KR B w vk (ks.map fun p => (p.1, D.d p.2)) → ∀ {xs : List (Key × V)} {kvs : List (Key × D)}, KR B w xs kvs → KR B w (mergeK xs vk) (kPutAll kvs ks)
  | [], [], _, _, _, h => h
  | k :: ks, e :: vk, ⟨⟨h1, h2⟩, h3⟩, xs, kvs, h => by
    unfold mergeK kPutAll
    rw [List.foldl_cons, List.foldl_cons]
    refine KR.putAll h3 ?_
    rw [h1]
    exact h.put h2
  | [], _ :: _, h, _, _, _ => h.elim
  | _ :: _, [], h, _, _, _ => h.elim
theorem KR.len' : ∀ {xs : List (Key × V)} {kvs : List (Key × D)}, KR B w xs kvs → xs.length = kvs.length
  | [], [], _ => rfl
  | _ :: _, _ :: _, ⟨_, h⟩ => by rw [List.length_cons, List.length_cons, KR.len' h]
  | [], _ :: _, h => h.elim
  | _ :: _, [], h => h.elim
theorem paired_mono {α β : Type} {R S : α → β → Prop} (h : ∀ a b, R a b → S a b) : ∀ {l : List α} {m : List β}, Paired R l m → Paired S l m
  | _, _, .nil => .nil
  | _, _, .cons a b => .cons (h _ _ a) (paired_mono h b)
variable {ex a : Expr} {es : List Expr} {ma me : ME} {pos : Pos}
/-- d.update(list of pairs) -/
def eUpdK (ma : ME) (ms : MA) : ME := fun e s => match ma e s with
  | some (.r j, s1) => match s1[j]? with
    | some (.dk _) => match ms e s1 with
      | some ([d], s2) => match s2[j]? with
        | some (.dk kvs) => match asL s2 d with
          | some ds => match kprs ds with
            | some ps => if kvs.length + ps.length ≤ lim then some (.d .none, s2.set j (.dk (kPutAll kvs ps))) else none
            | none => none
          | none => none
        | _ => none
      | _ => none
    | _ => none
  | _ => none
theorem n_updK {apos : Pos} {ms : MA} (ha : NE X a ma) (hs : NA X (ex :: es) ms) (hc : X.calm = true := by rfl)
    (hbase : attributeBase a "update" X.env (eval a X.env) = eval a X.env := by rfl)
    (hfew : ((backTo pos (starEach (ex :: es) X.env)).all (fun x => !x.1) && (backToKw pos (keywordEach [] X.env)).all (fun x => x.1.isSome)
      && decide ((ex :: es).length + ([] : List Keyword).length + (if ([] : List Keyword).isEmpty then 0 else 1) < 30)) = true := by rfl)
    (hline : (apos.endLine == pos.line) = true := by rfl) (hst : starEach (ex :: es) X.env = (false, eval ex X.env) :: starEach es X.env := by rfl) (hplain : (backTo pos (starEach es X.env)).any (·.1) = false := by rfl) :
    NE X (.Call (.Attribute a "update" apos) (ex :: es) [] pos) (eUpdK ma ms) := fun e s z s' h => by
  unfold eUpdK at h
  split at h
  · rename_i j s1 e1
    split at h
    · rename_i k1 e2
      split at h
      · rename_i d s2 e3
        split at h
        · rename_i kvs e4
          split at h
          · rename_i ds e5
            split at h
            · rename_i ks e6
              split at h
              · rename_i hl
                cases h
                refine PE.imp (pe_bm PySem.F.plainAttrs_dict PySem.F.slot_dict_update PySem.F.type_dict_update (mt_updK hc) (ha _ _ _ _ e1) (hs _ _ _ _ e3) hbase hfew hline hst hplain) fun σ H Q ⟨w, g, l, k⟩ => ⟨w, g, l, fun v w1 H1 l1 g1 v1 => ?_⟩
                obtain ⟨p1, xs1, rfl, h1, _, _⟩ := chg_dk g1 v1 e2
                refine ⟨.inr (.inr (.inl ⟨rfl, .inl ⟨xs1, h1⟩⟩)), w1, g1, l.up l1, fun us w2 H2 l2 g2 v2 => ?_⟩
                obtain ⟨p2, xs2, ep, h2, h3, h4⟩ := chg_dk g2 (v1.up l2) e4
                cases ep
                obtain ⟨v, rfl, hv1⟩ := vrs1 v2
                obtain ⟨p, vs, rfl, q1, q2⟩ := asL_ok e5 g2 hv1
                obtain ⟨ps, kv2, rfl, q3, q4⟩ := kpr_of q2 e6
                have lk : kv2.length = ks.length := by have := q4.len'; rwa [List.length_map] at this
                refine ⟨p1, p, ps, kv2, xs2, rfl, rfl, h2, q1, paired_mono (fun _ _ h => g2.ext.t h) q3, by rw [h3.len', lk]; exact Nat.le_trans hl (Nat.le_of_lt lim_lt), ?_⟩
                exact k .non w2 _ (l1.trans l2) (h4 _ _ (KR.putAll q4 h3)) vn
              · cases h
            · cases h
          · cases h
        · cases h
      · cases h
    · cases h
  · cases h
end
end N

namespace N
open PySem L2 PyProof.Rows
open Z (Ext dpUp dpsUp dpsLen dpsGet DxO KyD DEn Cl cut offv bl Dfn)

section
variable {X : Cx} {pins : List (Addr × Obj)} {σ : L2.St} {H : Hp} {s : Shared}
end

section
variable {K : PySem.W.Frag} {F : Hp} {a : Addr} {o : Obj} {φ : Heap → Prop}
end
section
variable {B : Ba} {w : W} {s : Sto} {H : Hp} {a : Addr} {o : Obj} {φ : Heap → Prop}
end
section
variable {X : Cx} {ex a b c tg iter elt : Expr} {es ifs elts : List Expr} {st : Stmt} {body : List Stmt} {m ma mb : ME} {M : MS} {pos p : Pos}
end
end N

namespace Z
open PySem L2 PyProof.Rows

section
variable {P : Program} {w : World} {A : Around} {E : Value → Shared → Prop} {s : Shared}
end
section
variable {X : Cx} {pins : List (Addr × Obj)} {σ : L2.St} {H : Hp} {s : Shared}
end
end Z
namespace N
open PySem L2 PyProof.Rows
open Z (Ext dpUp dpsUp dpsLen dpsGet DxO KyD DEn Cl cut offv bl Dfn)
section
variable {X : Cx} {ex a b c tg iter tg1 iter1 elt e : Expr} {es : List Expr} {m ma mb mc : ME} {pos p q p2 tpos : Pos}
end

section
variable {X : Cx} {tg : Expr}
variable {a b : Expr} {ms : MA} {p pos : Pos}
end
end N

namespace N
open PySem L2 PyProof.Rows
open Z (Ext dpUp dpsUp dpsLen dpsGet DxO KyD DEn Cl cut offv bl Dfn)

abbrev MPP := Lo → Sto → Option (List (Key × D) × Sto)
def NPP (X : Cx) (pos : Pos) (keys : List (Option Expr)) (values : List Expr) (m : MPP) : Prop := ∀ e s kvs s', m e s = some (kvs, s') → ∃ trs, PPs X pos keys values trs ∧ ∀ (σ : L2.St) (H : Hp) (Q : List (V × V) → Hp → Prop),
  (∃ w, Ok (ba X) w s H ∧ Sl (ba X) w e σ ∧ ∀ vk w' H', w.le w' → Ok (ba X) w' s' H' → KR (ba X) w' vk kvs → Q (vk.map fun kv => (kV kv.1, kv.2)) H') → tPairs trs σ H Q
def ppN : MPP := fun _ s => some ([], s)
section
variable {X : Cx} {pos : Pos} {keys : List (Option Expr)} {values : List Expr} {k v : Expr} {m mv : ME} {mr : MPP}
theorem npp_nil : NPP X pos [] [] ppN := fun e s kvs s' h => by
  cases h
  exact ⟨[], pps_nil, fun σ H Q ⟨w, g, l, q⟩ => q [] w H (W.le.refl w) g trivial⟩
def kPutD (kvs : List (Key × D)) (ps : List (Key × D)) : List (Key × D) := ps.foldl (fun acc p => kPut acc p.1 p.2) kvs
theorem KR.putD {B : Ba} {w : W} : ∀ {ks : List (Key × D)} {vk : List (Key × V)}, KR B w vk ks → ∀ {xs : List (Key × V)} {kvs : List (Key × D)}, KR B w xs kvs → KR B w (mergeK xs vk) (kPutD kvs ks)
  | [], [], _, _, _, h => h
  | k :: ks, e :: vk, ⟨⟨h1, h2⟩, h3⟩, xs, kvs, h => by
    unfold mergeK kPutD
    rw [List.foldl_cons, List.foldl_cons]
    refine KR.putD h3 ?_
    rw [h1]
    exact h.put h2
  | [], _ :: _, h, _, _, _ => h.elim
  | _ :: _, [], h, _, _, _ => h.elim
def eDisp (m : MPP) : ME := fun e s => match m e (s ++ [.dk []]) with
  | some (kvs, s') => match s'[s.length]? with
    | some (.dk []) => if kvs.length ≤ 15 then some (.r s.length, s'.set s.length (.dk (kPutD [] kvs))) else none
    | _ => none
  | none => none
theorem n_disp {m : MPP} (h : NPP X pos keys values m) (hall : keys.all (·.isSome) = true := by rfl) (hl : keys.length = values.length := by rfl) (h0 : keys ≠ [] := by simp) (h15 : keys.length ≤ 15 := by decide) : NE X (.Dict keys values pos) (eDisp m) := fun e s d s' hm => by
  unfold eDisp at hm
  split at hm
  · rename_i kvs s1 e1
    split at hm
    · rename_i e2
      split at hm
      · rename_i h3
        cases hm
        obtain ⟨trs, h1, h2⟩ := h _ _ _ _ e1
        refine PE.imp (pe_disp h1 hall hl h0 h15) fun σ H Q ⟨w, g, l, k⟩ => fun p hp => ?_
        refine h2 _ _ _ ⟨_, g.new hp ⟨ext_none g.ext hp, [], upd_same, trivial⟩, l.up Ok.new_le, fun vk w2 H2 l2 g2 kr => ?_⟩
        have hat : (w.ρ ++ [p])[s.length]? = some p := by rw [← g.lr, List.getElem?_append_right (Nat.le_refl _), Nat.sub_self]; rfl
        obtain ⟨a, xs, ea, q2, q3, q4⟩ := chg_dk (v := .ref p) g2 ⟨p, pre_get l2.ρ hat, rfl⟩ e2
        cases ea
        cases xs with
        | cons _ _ => exact q3.elim
        | nil =>
          refine ⟨q2, vk, rfl, by rw [kr.len']; exact h3, ?_⟩
          exact k _ w2 _ (Ok.new_le.trans l2) (q4 _ _ (KR.putD kr (show KR (ba X) w2 [] [] from trivial))) ⟨p, pre_get l2.ρ hat, rfl⟩
      · cases hm
    · cases hm
  · cases hm
end
end N

namespace N
open PySem L2 PyProof.Rows
open Z (Ext dpUp dpsUp dpsLen dpsGet DxO KyD DEn Cl cut offv bl Dfn)

section
variable {X : Cx} {pins : List (Addr × Obj)} {σ : L2.St} {H : Hp} {s : Shared}
end
end N

namespace N
open PySem L2 PyProof.Rows

section
variable {X : Cx} {pos : Pos}
end
end N

namespace N
open PySem L2 PyProof.Rows
open Z (Ext dpUp dpsUp dpsLen dpsGet DxO KyD DEn Cl cut offv bl Dfn)

section
variable {X : Cx} {tg ex : Expr} {m : ME}
end
section
variable {X : Cx} {ex : Expr} {ms : MA} {p pos apos : Pos}
end
def rgI (a b : Int) : List PyData := (List.range (b - a).toNat).map fun i => .int (a + (i : Nat))
theorem dps_rg {K : PySem.W.Frag} {F : Hp} {a b : Int} : DpAll K F (rgV a b) (rgI a b) := by
  unfold rgV rgI
  generalize List.range (b - a).toNat = l
  induction l with
  | nil => exact .nil
  | cons x l ih => exact .cons (.int _) ih
section
variable {X : Cx} {a b : Expr} {ma mb : ME} {p pos p2 pos2 : Pos}
end
section
variable {X : Cx} {tg a b c : Expr} {ms : MA} {p pos : Pos}
end
end N

namespace N
open PySem L2 PyProof.Rows
open Z (Ext dpUp dpsUp dpsLen dpsGet DxO KyD DEn Cl cut offv bl Dfn)

section
variable {X : Cx}
end
section
variable {X : Cx} {a ex : Expr} {ma : ME} {ms : MA} {pos apos : Pos}
end
def eLstR (own : Bool) (ma : ME) : ME := fun e s => match ma e s with
  | some (.d (.int i), s1) => if 0 ≤ i ∧ i ≤ 10000 then mkL own s1 ((rgI 0 i).map .d) else none
  | _ => none
section
variable {X : Cx} {a : Expr} {ma : ME} {own : Bool} {p pos p2 pos2 : Pos}
theorem n_lstR (hc : X.calm = true) (ha : NE X a ma) (hm : X.mg "list" = none) (hr : X.mg "range" = none) (hg : Gl X "list" := by rfl) (hg2 : Gl X "range" := by rfl)
    (na : starEach [a] X.env = (false, eval a X.env) :: starEach [] X.env := by rfl)
    (nc : starEach [.Call (.Name "range" p2) [a] [] pos2] X.env = (false, eval (.Call (.Name "range" p2) [a] [] pos2) X.env) :: starEach [] X.env := by rfl) :
    NE X (.Call (.Name "list" p) [.Call (.Name "range" p2) [a] [] pos2] [] pos) (eLstR own ma) := fun e s z s' h => by
  unfold eLstR at h
  split at h
  · rename_i i s1 e1
    split at h
    · rename_i hi
      refine PE.imp (pe_listRg hc hg hm (prg_1 hg2 hr (ha _ _ _ _ e1) na) nc) fun σ H Q ⟨w, g, l, k⟩ => ⟨w, g, l, fun v w1 H1 l1 g1 v1 => ?_⟩
      cases vr_int v1
      refine ⟨i, rfl, RgOk.of_le (by decide) (by omega) (by decide) (by omega), fun q hq => ?_⟩
      obtain ⟨w', l', g', v'⟩ := mkL_ok h g1 hq (VRs.data.mpr dps_rg)
      exact k _ w' _ (l1.trans l') g' v'
    · cases h
  · cases h
end
section
variable {X : Cx} {a b c d v1 v2 v3 : Expr} {ma mi mb mj : ME} {ms : MA} {pos px pt pt2 tp1 tp2 : Pos} {kt k2 : Nat}
end
section
variable {X : Cx} {pos : Pos} {keys : List (Option Expr)} {values : List Expr} {k v : Expr} {m mv : ME} {mr : MPP}
end
section
variable {X : Cx} {a b c : Expr} {ms : MA} {pos : Pos}
theorem ns_parC3 {x y z : Str} {px py pz pt pt2 : Pos} {kt k2 : Nat} (i j k : Nat) (ha : NA X [a, b, c] ms) (hN : X.N.Nodup) (hc : X.calm = true := by rfl) (hx : X.N[i]? = some x := by rfl) (hy : X.N[j]? = some y := by rfl) (hz : X.N[k]? = some z := by rfl)
    (hlx : Loc X.env.scope x := by first | exact .inl rfl | exact .inr rfl) (hly : Loc X.env.scope y := by first | exact .inl rfl | exact .inr rfl) (hlz : Loc X.env.scope z := by first | exact .inl rfl | exact .inr rfl)
    (hfx : X.fn x = true ∨ X.env.scope.names.lookup x = some .local := by first | exact .inl rfl | exact .inr rfl) (hfy : X.fn y = true ∨ X.env.scope.names.lookup y = some .local := by first | exact .inl rfl | exact .inr rfl) (hfz : X.fn z = true ∨ X.env.scope.names.lookup z = some .local := by first | exact .inl rfl | exact .inr rfl)
    (hs : swapsWithSole [.Tuple [.Name x px, .Name y py, .Name z pz] kt pt] (.Tuple [a, b, c] k2 pt2) pos.line X.env = pure false := by rfl) (hw : swappedStores [.Tuple [.Name x px, .Name y py, .Name z pz] kt pt] (.Tuple [a, b, c] k2 pt2) X.env = pure none := by rfl) :
    NS X (.Assign [.Tuple [.Name x px, .Name y py, .Name z pz] kt pt] (.Tuple [a, b, c] k2 pt2) pos) (sPar [i, j, k] ms) := fun e s fl e' s' bb hm hb => by
  unfold sPar at hm
  split at hm
  · rename_i ds s1 e1
    split at hm
    · rename_i hl
      cases hm
      match ds, hl with
      | [d1, d2, d3], _ =>
        refine Z.PS.imp (ps_asg (pe_tup (ha _ _ _ _ e1)) (pg_tup hc (pgs_cons (pg_name hN hx hlx hfx) (pgs_cons (pg_name hN hy hly hfy) (pgs_cons (pg_name hN hz hlz hfz) pgs_nil))) (n := 3)) hs hw) fun Dn σ H ⟨w, g, l, q⟩ => ⟨w, g, l, fun us w1 H1 l1 g1 v1 => ?_⟩
        obtain ⟨u, v, t, rfl, h1, h2, h3⟩ := vrs3 v1
        refine ⟨(by decide : 3 ≤ sizeLine), fun p hp => ⟨p, [u, v, t], rfl, .of upd_same, rfl, u, [v, t], rfl, v, [t], rfl, t, [], rfl, rfl, ?_⟩⟩
        have l2 := g1.frz_le (o := .tup [u, v, t]) hp
        have g2 := g1.frz (o := .tup [u, v, t]) hp
        exact q _ _ _ ((l1.trans l2).cut bb) g2 ((((l.up (l1.trans l2)).put i (h1.up l2)).put j (h2.up l2)).put k (h3.up l2))
    · cases hm
  · cases hm
end
end N

namespace N
open PySem L2 PyProof.Rows
open Z (Ext dpUp dpsUp dpsLen dpsGet DxO KyD DEn Cl cut offv bl Dfn)

section
variable {X : Cx} {pos : Pos}
end
end N

namespace N
open PySem L2 PyProof.Rows
open Z (Ext dpUp dpsUp dpsLen dpsGet DxO KyD DEn dkind)

section
variable {X : Cx}
variable {o ex : Expr} {to : TE} {t : TA} {apos cpos : Pos}
end
section
variable {X : Cx} {o ex : Expr} {ma : ME} {ms : MA} {apos pos : Pos}
end
def eUpper (ma : ME) : ME := fun e s => match ma e s with
  | some (.d (.str z), s1) => if z.length ≤ 5592405 then some (.d (.str (Txt.upper z)), s1) else none
  | _ => none
section
variable {X : Cx} {o : Expr} {ma : ME} {apos pos : Pos}
theorem n_upper (ha : NE X o ma) (hbase : attributeBase o "upper" X.env (eval o X.env) = eval o X.env := by rfl) (hline : (apos.endLine == pos.line) = true := by rfl) : NE X (.Call (.Attribute o "upper" apos) [] [] pos) (eUpper ma) := fun e s z s' h => by
  unfold eUpper at h
  split at h
  · rename_i x s1 e1
    split at h
    · rename_i hl
      cases h
      refine PE.imp (pe_upper (ha _ _ _ _ e1) hbase hline) fun σ H Q ⟨w, g, l, k⟩ => ⟨w, g, l, fun v w1 H1 l1 g1 v1 => ?_⟩
      cases vr_str v1
      exact ⟨⟨_, rfl⟩, _, rfl, rfl, hl, k _ w1 H1 l1 g1 vs'⟩
    · cases h
  · cases h
end
end N

namespace N
open PySem L2 PyProof.Rows
open Z (Ext dpUp dpsUp dpsLen dpsGet DxO KyD DEn dkind)

def rLtZ (K : PySem.W.Frag) (u : Nat) : R2 := fun x y H Q => ∃ d c, Dp K H x d ∧ Dp K H y c ∧ PySem.W.alike d c = true ∧ d ≠ .none ∧ u + min d.depth c.depth < cLine ∧ Q (.bl (PySem.W.dataLt d c)) H
theorem op_ltZ {X : Cx} : OpR X (compareOp .Lt) (rLtZ X.K X.A.units) := by
  intro pins s σ H x y v u Q I rx ry h
  obtain ⟨d, c, hd, hc, p1, p2, hu, q⟩ := h
  obtain ⟨as, r1⟩ := Dp.reads I d x v hd rx
  obtain ⟨bs, r2⟩ := Dp.reads I c y u hc ry
  exact PySem.W.rcLt_alike d c X.A s v u as bs r1 r2 p1 p2 hu X.prog X.w _ _ ⟨.bl _, H, I, rfl, q⟩
def nnD : PyData → Bool
  | .none => false
  | _ => true
noncomputable def cLtA : FC := fun s a b => match pd s a with
  | some x => match pd s b with
    | some y => if PySem.W.alike x y = true ∧ nnD x = true ∧ min x.depth y.depth ≤ 60 then some (PySem.W.dataLt x y) else none
    | none => none
  | none => none
theorem c_ltA {X : Cx} (hu : X.A.units + 64 < cLine) : CmpS X .Lt cLtA := fun s a b k e => by
  unfold cLtA at e
  split at e
  · rename_i x e1
    split at e
    · rename_i y e2
      split at e
      · rename_i hc
        cases e
        refine ⟨_, op_ltZ, fun u v w H Q g h1 h2 q => ⟨x, y, pd_ok e1 g h1, pd_ok e2 g h2, hc.1, fun h => ?_, by show X.A.units + _ < _; omega, q _ w H (W.le.refl w) g vb⟩⟩
        rw [h] at hc
        exact absurd hc.2.1 Bool.false_ne_true
      · cases e
    · cases e
  · cases e
section
variable {X : Cx} {a : Expr} {ma : ME} {pos : Pos}
end
end N

namespace N
open PySem L2 PyProof.Rows
open Z (Ext dpUp dpsUp dpsLen dpsGet DxO KyD DEn)

section
variable {X : Cx} {a b c d v1 v2 : Expr} {ma mi mb mj : ME} {ms : MA} {pos pt pt2 tp1 tp2 : Pos} {kt k2 : Nat}
end
section
variable {X : Cx} {b : Expr} {mb : ME} {p pos p2 pos2 : Pos}
end
end N

namespace N
open PySem L2 PyProof.Rows
open Z (Ext dpUp dpsUp dpsLen dpsGet DxO KyD DEn)

section
variable {X : Cx} {es : List Expr} {value : Expr} {pos : Pos}
end
end N

namespace N
open PySem L2 PyProof.Rows
open Z (Ext dpUp dpsUp dpsLen dpsGet DxO KyD DEn)

noncomputable def eGetK (ma mi : ME) : ME := fun e s => match ma e s with
  | some (.r j, s1) => match s1[j]? with
    | some (.dk _) => match mi e s1 with
      | some (.d x, s2) => match s2[j]? with
        | some (.dk kvs) => match keyOf x with
          | some k => some ((kGet kvs k).getD (.d .none), s2)
          | none => none
        | _ => none
      | _ => none
    | _ => none
  | _ => none
theorem KR.valD {B : Ba} {w : W} {k : Key} : ∀ {xs : List (Key × V)} {kvs : List (Key × D)}, KR B w xs kvs → VR B w ((valV xs k).getD .non) ((kGet kvs k).getD (.d .none))
  | [], [], _ => Dp.non
  | e :: xs, kv :: kvs, ⟨⟨h1, h2⟩, h⟩ => by
    have ih := KR.valD (k := k) h
    unfold valV kGet at ih ⊢
    rw [List.find?_cons, List.find?_cons]
    by_cases hk : kv.1 = k
    · simp only [h1, hk, decide_true]
      exact h2
    · simp only [h1, hk, decide_false]
      exact ih
  | [], _ :: _, h => h.elim
  | _ :: _, [], h => h.elim
section
variable {X : Cx} {o ex : Expr} {ma mi : ME} {apos pos : Pos}
theorem n_getK (hu : X.A.units + 64 < cLine) (ha : NE X o ma) (hs : NE X ex mi)
    (hbase : attributeBase o "get" X.env (eval o X.env) = eval o X.env := by rfl)
    (hfew : ((backTo pos (starEach [ex] X.env)).all (fun x => !x.1) && (backToKw pos (keywordEach [] X.env)).all (fun x => x.1.isSome)
      && decide (([ex] : List Expr).length + ([] : List Keyword).length + (if ([] : List Keyword).isEmpty then 0 else 1) < 30)) = true := by rfl)
    (hline : (apos.endLine == pos.line) = true := by rfl) (hst : backTo pos (starEach [ex] X.env) = [(false, eval ex X.env)] := by rfl) :
    NE X (.Call (.Attribute o "get" apos) [ex] [] pos) (eGetK ma mi) := fun e s z s' h => by
  unfold eGetK at h
  split at h
  · rename_i j s1 e1
    split at h
    · rename_i kvs0 e0
      split at h
      · rename_i x s2 e2
        split at h
        · rename_i kvs e4
          split at h
          · rename_i k hk
            cases h
            refine PE.imp (pe_dget1 (by omega) (ha _ _ _ _ e1) (hs _ _ _ _ e2) ⟨hbase, hfew, hline, hst⟩) fun σ H Q ⟨w, g, l, q⟩ => ⟨w, g, l, fun v w1 H1 l1 g1 v1 => ?_⟩
            obtain ⟨p1, hp1, rfl⟩ := v1
            obtain ⟨_, xs0, q0, _⟩ := g1.ce _ _ p1 e0 hp1
            refine ⟨p1, rfl, .inl ⟨xs0, .inl q0⟩, w1, g1, l.up l1, fun u w2 H2 l2 g2 v2 => ?_⟩
            have hp2 := pre_get l2.ρ hp1
            obtain ⟨_, xs, q1, q2⟩ := g2.ce _ _ p1 e4 hp2
            rw [keyOf_ok hk v2]
            exact ⟨_, DGet.k q1, q _ w2 H2 (l1.trans l2) g2 q2.valD⟩
          · cases h
        · cases h
      · cases h
    · cases h
  · cases h
end
end N

namespace N
open PySem L2 PyProof.Rows
open Z (Dfn)

abbrev GX := Sto → List D → Option (Str × Sto)
/-- the promise of a def about the error that it raises -/
def spG (B : Ba) (mg : Str → Option Value) (G : GX) : Sp := fun vs H _ E => ∃ w ds s x s', Ok B w s H ∧ VRs B w vs ds ∧ G s ds = some (x, s') ∧ ∀ C w' H', mg x = some (.ref C) → w.le w' → Ok B w' s' H' → E (.ref C) none H'
structure FnX (P : Program) (w : World) (K : PySem.W.Frag) (mg : Str → Option Value) (base : Heap) (k : Nat) (x : Str) (G : GX) : Prop where
  ex : ∃ (f : Addr) (fd : FuncData) (ps : List Str), FnOk P w K mg base (L2.CX P w) k f fd ps (spG ⟨P, w, K⟩ mg G) ∧ mg x = some (.ref f) ∧ PySem.W.keepIn K (.ref f) = true ∧ Binds K fd ps []
theorem FnX.mono {P : Program} {w : World} {K : PySem.W.Frag} {mg : Str → Option Value} {base : Heap} {x : Str} {G : GX} {k j : Nat} (c : FnX P w K mg base k x G) (h : k ≤ j) : FnX P w K mg base j x G := let ⟨f, fd, ps, F, r⟩ := c.ex; ⟨f, fd, ps, F.mono h, r⟩
abbrev MX := Lo → Sto → Option (Str × Sto)
section
variable {X : Cx} {W : WX} {ex a b c tg : Expr} {es : List Expr} {st : Stmt} {rest body orelse : List Stmt} {ms : MA} {mt : MT} {pos p : Pos} {M : MS} {g g1 g2 : MX}
theorem ps_noxN {st : Stmt} {t : L2.TS} (h : PS X.nox st t) : PS X st t := ⟨fun pins s σ H D I hw =>
  wpAny_mono (h.run pins s σ H D (I.wish _) hw) (fun _ _ q => q.unwish) fun _ _ z => False.elim z⟩
theorem NS.nox (h : NS X.nox st M) : NS X st M := fun e s fl e' s' b hm hb => ps_noxN (h e s fl e' s' b hm hb)
end
end N

namespace N
open PySem L2 PyProof.Rows
open Z (Dfn)

section
variable {X : Cx} {a C : Addr} {oe : Obj} {pn : List (Addr × Obj)} {n y1 y2 y3 y4 : Str} {i : Nat} {q1 q2 p1 p2 p3 p4 q3 q4 q5 : Pos} {k : Nat}
end
section
variable {X : Cx} {C : Addr} {x n y1 y2 y3 y4 : Str} {i : Nat} {np q1 q2 p1 p2 p3 p4 q3 q4 q5 q6 pos pos' xp : Pos} {k : Nat} {g : MX} {ex : Expr}
end
section
variable {X : Cx} {C : Addr} {x n y1 y2 y3 y4 td w1 w2 : Str} {i it : Nat} {np q1 q2 p1 p2 p3 p4 q3 q4 q5 q6 pos pos' xp c1 c2 c3 c4 u1 u2 u3 tp : Pos} {k k1 k2 k3 k4 k5 k6 : Nat} {g : MX} {M : MS} {bst : Stmt}
end
section
variable {X : Cx} {W : WX} {g g1 g2 : MX} {td w0 : Str} {call : Expr} {k1 k2 : Nat} {c1 c2 tp pos : Pos} {it : Nat} {st : List Stmt}
end
end N

namespace N
open PySem L2 PyProof.Rows
open Z (Ext dpUp dpsUp dpsLen dpsGet DxO KyD DEn Cl cut offv bl Dfn)

def ppV (mk mv : ME) (mr : MPP) : MPP := fun e s => match mk e s with
  | some (.d x, s0) => match keyOf x with
    | some k => match mv e s0 with
      | some (d, s1) => match mr e s1 with
        | some (kvs, s2) => some ((k, d) :: kvs, s2)
        | none => none
      | none => none
    | none => none
  | _ => none
section
variable {X : Cx} {pos : Pos} {keys : List (Option Expr)} {values : List Expr} {k v : Expr} {m mk mv : ME} {mr : MPP}
theorem npp_consV (hk : NE X k mk) (hv : NE X v mv) (hr : NPP X pos keys values mr) : NPP X pos (some k :: keys) (v :: values) (ppV mk mv mr) := fun e s kvs s' h => by
  unfold ppV at h
  split at h
  · rename_i x s0 e0
    split at h
    · rename_i ky ek
      split at h
      · rename_i d s1 e1
        split at h
        · rename_i kvs2 s2 e2
          cases h
          obtain ⟨trs, h1, h2⟩ := hr _ _ _ _ e2
          refine ⟨(tE (ba X) e s (.d x) s0, tE (ba X) e s0 d s1) :: trs, pps_cons (hk _ _ _ _ e0) (hv _ _ _ _ e1) h1, fun σ H Q ⟨w, g, l, q⟩ => ?_⟩
          refine ⟨w, g, l, fun u w1 H1 l1 g1 v1 => ⟨w1, g1, l.up l1, fun u2 w2 H2 l2 g2 v2 => h2 _ _ _ ⟨w2, g2, (l.up l1).up l2, fun vk w3 H3 l3 g3 k3 => ?_⟩⟩⟩
          have hu : u = kV ky := keyOf_ok ek v1
          subst hu
          exact q ((ky, u2) :: vk) w3 H3 ((l1.trans l2).trans l3) g3 ⟨⟨rfl, v2.up l3⟩, k3⟩
        · cases h
      · cases h
    · cases h
  · cases h
end
def fRem : FM := fun _ xs ds => match ds with
  | [.d (.int k)] => match intsOf xs with
    | some ns => match ns.findIdx? (fun n => decide (n = k)) with
      | some j => some (xs.eraseIdx j, .d .none)
      | none => none
    | none => none
  | _ => none
theorem vrs_intsP {B : Ba} {w : W} : ∀ {xs : List D} {ns : List Int} {vs : List V}, intsOf xs = some ns → VRs B w vs xs → vs = ns.map V.int
  | [], ns, vs, h, hv => by
    cases h
    cases vs with
    | nil => rfl
    | cons => exact hv.elim
  | d :: xs, ns, vs, h, hv => by
    cases vs with
    | nil => exact hv.elim
    | cons v vs =>
      obtain ⟨h1, h2⟩ := hv
      rcases d with x | j
      · cases x <;> simp only [intsOf] at h <;> try (cases h)
        rename_i i
        rcases h3 : intsOf xs with _ | ms
        · rw [h3] at h; cases h
        · rw [h3] at h
          cases h
          rw [vrs_intsP h3 h2, vr_int h1]
          rfl
      · simp only [intsOf] at h
        cases h
section
variable {X : Cx}
theorem f_rem : MetS X "list.remove" fRem := fun s xs ds ys z h => by
  unfold fRem at h
  split at h
  · rename_i k
    split at h
    · rename_i ns e1
      split at h
      · rename_i j e2
        cases h
        refine ⟨_, L2.mt_remove, fun p vs us w H Q g hp hv hu q => ?_⟩
        obtain ⟨u, rfl, hu1⟩ := vrs1 hu
        cases vr_int hu1
        have ev := vrs_intsP e1 hv
        obtain ⟨hj, h1, h2⟩ := List.findIdx?_eq_some_iff_getElem.mp e2
        have h1 : ns[j] = k := by simpa using h1
        refine ⟨p, ns, k, j, rfl, rfl, by rw [hp, ev], by rw [List.getElem?_eq_getElem hj, h1], fun m hm hk => ?_, ?_⟩
        · obtain ⟨hm2, hk⟩ := List.getElem?_eq_some_iff.mp hk
          have := h2 m hm
          simp [hk] at this
        · rw [← L2.erase_mapI, ← ev]
          exact q _ _ (hv.eraseIdx j) vn
      · cases h
    · cases h
  · cases h
end
end N

namespace N
open PySem L2 PyProof.Rows

def R {α : Type} (o : Option (α × Sto)) (Q : α → Sto → Prop) : Prop := ∃ x s, o = some (x, s) ∧ Q x s
def Rc {α : Type} (o : Option α) (Q : α → Prop) : Prop := ∃ x, o = some x ∧ Q x
def Rs (o : Option (Fl × Lo × Sto)) (Q : Fl → Lo → Sto → Prop) : Prop := ∃ fl e s, o = some (fl, e, s) ∧ Q fl e s
def Ri (o : Option (List D × Option (Nat × List D) × Sto)) (Q : List D → Option (Nat × List D) → Sto → Prop) : Prop := ∃ l ck s, o = some (l, ck, s) ∧ Q l ck s
section
variable {α : Type}
@[simp] theorem R_some {x : α} {s : Sto} {Q : α → Sto → Prop} : R (some (x, s)) Q ↔ Q x s := ⟨fun ⟨_, _, h, q⟩ => by cases h; exact q, fun q => ⟨_, _, rfl, q⟩⟩
@[simp] theorem R_none {Q : α → Sto → Prop} : R none Q ↔ False := ⟨fun ⟨_, _, h, _⟩ => (by cases h), False.elim⟩
@[simp] theorem Rc_some {x : α} {Q : α → Prop} : Rc (some x) Q ↔ Q x := ⟨fun ⟨_, h, q⟩ => by cases h; exact q, fun q => ⟨_, rfl, q⟩⟩
@[simp] theorem Rc_none {Q : α → Prop} : Rc none Q ↔ False := ⟨fun ⟨_, h, _⟩ => (by cases h), False.elim⟩
@[simp] theorem Rs_some {fl : Fl} {e : Lo} {s : Sto} {Q : Fl → Lo → Sto → Prop} : Rs (some (fl, e, s)) Q ↔ Q fl e s := ⟨fun ⟨_, _, _, h, q⟩ => by cases h; exact q, fun q => ⟨_, _, _, rfl, q⟩⟩
@[simp] theorem Rs_none {Q : Fl → Lo → Sto → Prop} : Rs none Q ↔ False := ⟨fun ⟨_, _, _, h, _⟩ => (by cases h), False.elim⟩
@[simp] theorem Ri_some {l : List D} {ck : Option (Nat × List D)} {s : Sto} {Q : List D → Option (Nat × List D) → Sto → Prop} : Ri (some (l, ck, s)) Q ↔ Q l ck s := ⟨fun ⟨_, _, _, h, q⟩ => by cases h; exact q, fun q => ⟨_, _, _, rfl, q⟩⟩
@[simp] theorem Ri_none {Q : List D → Option (Nat × List D) → Sto → Prop} : Ri none Q ↔ False := ⟨fun ⟨_, _, _, h, _⟩ => (by cases h), False.elim⟩
theorem R.imp {o : Option (α × Sto)} {Q Q' : α → Sto → Prop} (h : R o Q) (k : ∀ x s, Q x s → Q' x s) : R o Q' := by
  obtain ⟨x, s, e, q⟩ := h
  exact ⟨x, s, e, k _ _ q⟩
theorem Rc.imp {o : Option α} {Q Q' : α → Prop} (h : Rc o Q) (k : ∀ x, Q x → Q' x) : Rc o Q' := by
  obtain ⟨x, e, q⟩ := h
  exact ⟨x, e, k _ q⟩
theorem Rs.imp {o : Option (Fl × Lo × Sto)} {Q Q' : Fl → Lo → Sto → Prop} (h : Rs o Q) (k : ∀ fl e s, Q fl e s → Q' fl e s) : Rs o Q' := by
  obtain ⟨x, e, s, h, q⟩ := h
  exact ⟨x, e, s, h, k _ _ _ q⟩
theorem R.of {o : Option (α × Sto)} {x : α} {s : Sto} {Q : α → Sto → Prop} (h : o = some (x, s)) (q : Q x s) : R o Q := ⟨x, s, h, q⟩
theorem R.eq {o : Option (α × Sto)} {x : α} {s : Sto} (h : R o fun y s' => y = x ∧ s' = s) : o = some (x, s) := by
  obtain ⟨_, _, h, rfl, rfl⟩ := h
  exact h
theorem Rs.of {o : Option (Fl × Lo × Sto)} {fl : Fl} {e : Lo} {s : Sto} {Q : Fl → Lo → Sto → Prop} (h : o = some (fl, e, s)) (q : Q fl e s) : Rs o Q := ⟨_, _, _, h, q⟩
end
section
variable {e : Lo} {s : Sto} {Q : D → Sto → Prop} {Qt : Bool → Sto → Prop} {Qa : List D → Sto → Prop} {Qs : Fl → Lo → Sto → Prop} {Qo : Option Int → Sto → Prop} {Qi : List D → Option (Nat × List D) → Sto → Prop}
@[simp] theorem R_C (x : PyData) : R (eC x e s) Q ↔ Q (.d x) s := R_some
@[simp] theorem R_Var (i : Nat) : R (eVar i e s) Q ↔ match e[i]? with
  | some (some d) => Q d s
  | _ => False := by
  unfold eVar
  rcases e[i]? with _ | _ | d <;> simp
@[simp] theorem R_nil : R (aNil e s) Qa ↔ Qa [] s := R_some
@[simp] theorem R_cons (m : ME) (ms : MA) : R (aCons m ms e s) Qa ↔ R (m e s) fun d s1 => R (ms e s1) fun ds s2 => Qa (d :: ds) s2 := by
  unfold aCons
  rcases m e s with _ | ⟨d, s1⟩
  · simp
  · rcases h : ms e s1 with _ | ⟨ds, s2⟩ <;> simp [h]
@[simp] theorem R_bin (f : FB) (ma mb : ME) : R (eBin f ma mb e s) Q ↔ R (ma e s) fun x s1 => R (mb e s1) fun y s2 => R (f s2 x y) Q := by
  unfold eBin
  rcases ma e s with _ | ⟨d, s1⟩
  · simp
  · rcases h : mb e s1 with _ | ⟨ds, s2⟩ <;> simp [h]
@[simp] theorem R_cmp (f : FC) (ma mb : ME) : R (eCmp f ma mb e s) Q ↔ R (ma e s) fun x s1 => R (mb e s1) fun y s2 => Rc (f s2 x y) fun k => Q (.d (.bool k)) s2 := by
  unfold eCmp eBin
  rcases ma e s with _ | ⟨d, s1⟩
  · simp
  · rcases h : mb e s1 with _ | ⟨ds, s2⟩
    · simp [h]
    · rcases h2 : f s2 d ds with _ | k <;> simp [h, h2]
@[simp] theorem R_tcmp (f : FC) (ma mb : ME) : R (tCmp f ma mb e s) Qt ↔ R (ma e s) fun x s1 => R (mb e s1) fun y s2 => Rc (f s2 x y) fun k => Qt k s2 := by
  unfold tCmp
  rcases ma e s with _ | ⟨d, s1⟩
  · simp
  · rcases h : mb e s1 with _ | ⟨ds, s2⟩
    · simp [h]
    · rcases h2 : f s2 d ds with _ | k <;> simp [h, h2]
@[simp] theorem R_call (f : FA) (ms : MA) : R (eCall f ms e s) Q ↔ R (ms e s) fun ds s1 => R (f s1 ds) Q := by
  unfold eCall
  rcases ms e s with _ | ⟨d, s1⟩ <;> simp
@[simp] theorem R_ite (mt : MT) (ma mb : ME) : R (eIte mt ma mb e s) Q ↔ R (mt e s) fun k s1 => (k = true → R (ma e s1) Q) ∧ (k = false → R (mb e s1) Q) := by
  unfold eIte
  rcases mt e s with _ | ⟨_ | _, s1⟩ <;> simp
@[simp] theorem R_tVal (m : ME) : R (tVal m e s) Qt ↔ R (m e s) fun d s1 => Rc (truD s1 d) fun k => Qt k s1 := by
  unfold tVal
  rcases m e s with _ | ⟨d, s1⟩
  · simp
  · rcases h : truD s1 d with _ | k <;> simp [h]
@[simp] theorem R_tTrue : R (tTrue e s) Qt ↔ Qt true s := R_some
@[simp] theorem R_tNot (mt : MT) : R (tNot mt e s) Qt ↔ R (mt e s) fun k s1 => Qt (!k) s1 := by
  unfold tNot
  rcases mt e s with _ | ⟨k, s1⟩ <;> simp
@[simp] theorem R_tAnd (mt mu : MT) : R (tAnd mt mu e s) Qt ↔ R (mt e s) fun k s1 => (k = true → R (mu e s1) Qt) ∧ (k = false → Qt false s1) := by
  unfold tAnd
  rcases mt e s with _ | ⟨_ | _, s1⟩ <;> simp
@[simp] theorem R_tOr (mt mu : MT) : R (tOr mt mu e s) Qt ↔ R (mt e s) fun k s1 => (k = false → R (mu e s1) Qt) ∧ (k = true → Qt true s1) := by
  unfold tOr
  rcases mt e s with _ | ⟨_ | _, s1⟩ <;> simp
@[simp] theorem R_eAnd (ma mb : ME) : R (eAnd ma mb e s) Q ↔ R (ma e s) fun d s1 => Rc (truD s1 d) fun k => (k = true → R (mb e s1) Q) ∧ (k = false → Q d s1) := by
  unfold eAnd
  rcases ma e s with _ | ⟨d, s1⟩
  · simp
  · rcases h : truD s1 d with _ | _ | _ <;> simp [h]
@[simp] theorem R_eOr (ma mb : ME) : R (eOr ma mb e s) Q ↔ R (ma e s) fun d s1 => Rc (truD s1 d) fun k => (k = false → R (mb e s1) Q) ∧ (k = true → Q d s1) := by
  unfold eOr
  rcases ma e s with _ | ⟨d, s1⟩
  · simp
  · rcases h : truD s1 d with _ | _ | _ <;> simp [h]
@[simp] theorem R_eNot (m : ME) : R (eNot m e s) Q ↔ R (m e s) fun d s1 => Rc (truD s1 d) fun k => Q (.d (.bool (!k))) s1 := by
  unfold eNot
  rcases m e s with _ | ⟨d, s1⟩
  · simp
  · rcases h : truD s1 d with _ | k <;> simp [h]
@[simp] theorem R_neg (m : ME) : R (eNeg m e s) Q ↔ R (m e s) fun d s1 => match d with
  | .d (.int i) => Q (.d (.int (-i))) s1
  | _ => False := by
  unfold eNeg
  rcases m e s with _ | ⟨d, s1⟩
  · simp
  · rcases d with x | j
    · cases x <;> simp
    · simp
@[simp] theorem R_tup (ms : MA) : R (eTup ms e s) Q ↔ R (ms e s) fun ds s1 => Rc (data ds) fun xs => xs.length ≤ lim ∧ Q (.d (.tuple xs)) s1 := by
  unfold eTup
  rcases ms e s with _ | ⟨ds, s1⟩
  · simp
  · rcases h : data ds with _ | xs
    · simp [h]
    · by_cases h2 : xs.length ≤ lim <;> simp [h, h2]
@[simp] theorem R_lst (own : Bool) (ms : MA) : R (eLst own ms e s) Q ↔ R (ms e s) fun ds s1 => ds.length ≤ lim ∧ R (mkL own s1 ds) Q := by
  unfold eLst
  rcases ms e s with _ | ⟨ds, s1⟩
  · simp
  · by_cases h : ds.length ≤ lim <;> simp [h]
@[simp] theorem R_mkT (ds : List D) : R (mkL true s ds) Q ↔ Q (.r s.length) (s ++ [.lst ds]) := R_some
@[simp] theorem R_mkF (ds : List D) : R (mkL false s ds) Q ↔ Rc (data ds) fun xs => Q (.d (.list xs)) s := by
  unfold mkL
  rcases h : data ds with _ | xs <;> simp [h]
@[simp] theorem R_dic : R (eDic e s) Q ↔ Q (.r s.length) (s ++ [.dic []]) := R_some
@[simp] theorem R_dicK : R (eDicK e s) Q ↔ Q (.r s.length) (s ++ [.dk []]) := R_some
@[simp] theorem R_isi (t : TyT) (m : ME) : R (eIsi t m e s) Q ↔ R (m e s) fun d s1 => Rc (pd s1 d) fun x => Q (.d (.bool (t.of x))) s1 := by
  unfold eIsi
  rcases m e s with _ | ⟨d, s1⟩
  · simp
  · rcases h : pd s1 d with _ | x <;> simp [h]
@[simp] theorem R_oNone : R (oNone e s) Qo ↔ Qo none s := R_some
@[simp] theorem R_oSome (m : ME) : R (oSome m e s) Qo ↔ R (m e s) fun d s1 => match d with
  | .d (.int i) => Qo (some i) s1
  | _ => False := by
  unfold oSome
  rcases m e s with _ | ⟨d, s1⟩
  · simp
  · rcases d with x | j
    · cases x <;> simp [eC]
    · simp
theorem cutD_map {α β : Type} (f : α → β) (xs : List α) (lo hi : Option Int) : cutD (xs.map f) lo hi = (cutD xs lo hi).map f := by
  unfold cutD
  rw [List.length_map, List.map_take, List.map_drop]
theorem v_list {own : Bool} (xs : List PyData) : bList own s [.d (.list xs)] = mkL own s (xs.map .d) := rfl
@[simp] theorem R_sl {own : Bool} (ma : ME) (ml mu : MO) : R (eSl own ma ml mu e s) Q ↔ R (ma e s) fun a s1 => R (ml e s1) fun l s2 => R (mu e s2) fun u s3 => match a with
  | .d (.tuple xs) => Q (.d (.tuple (cutD xs l u))) s3
  | a => Rc (asL s3 a) fun ds => R (mkL own s3 (cutD ds l u)) Q := by
  unfold eSl
  rcases ma e s with _ | ⟨a, s1⟩
  · simp
  · rcases h1 : ml e s1 with _ | ⟨l, s2⟩
    · simp [h1]
    · rcases h2 : mu e s2 with _ | ⟨u, s3⟩
      · simp [h1, h2]
      · rcases a with x | j
        · cases x <;> simp [h1, h2, asL]
        · simp only [h1, h2, R_some]
          rcases h3 : asL s3 (.r j) with _ | ds <;> simp [h3]
/-- an item -/
def kIx (s : Sto) (a : D) (x : PyData) : Option D := match a with
  | .r j => match s[j]? with
    | some (.dk kvs) => match keyOf x with
      | some k => kGet kvs k
      | none => none
    | _ => none
  | _ => none
noncomputable def itF (s : Sto) (a b : D) : Option D := match gIxU s a b with
  | some d => some d
  | none => match b with
    | .d x => kIx s a x
    | _ => none
theorem R_it (ma mb : ME) : R (eIt ma mb e s) Q ↔ R (ma e s) fun a s1 => R (mb e s1) fun b s2 => Rc (itF s2 a b) fun d => Q d s2 := by
  unfold eIt eItem eIxK eBin
  rcases ma e s with _ | ⟨a, s1⟩
  · simp
  · rcases h : mb e s1 with _ | ⟨b, s2⟩
    · simp [h]
    · simp only [h, R_some, itF]
      rcases h2 : gIxU s2 a b with _ | d
      · simp only [R_some]
        rcases b with x | k
        · rcases a with y | j
          · simp [kIx]
          · simp only [kIx]
            rcases s2[j]? with _ | c
            · simp
            · rcases c with ds | kvs | kvs | kvs | ⟨rl, rh⟩ | td | ⟨iC, ifs⟩ | _
              · simp
              · simp
              · rcases keyOf x with _ | k
                · simp
                · rcases h3 : kGet kvs k with _ | d <;> simp [h3]
              · simp
              · simp
              · simp
              · simp
              · simp
        · rcases a with y | j <;> simp
      · simp
theorem itF_l {j : Nat} {ds : List D} {i : Int} {d : D} (h : s[j]? = some (.lst ds)) (h2 : atI ds i = some d) : itF s (.r j) (.d (.int i)) = some d := by
  unfold itF gIxU gIx asSeq asL
  simp only [h, h2]
theorem itF_t {xs : List PyData} {i : Int} {x : PyData} (h2 : atI xs i = some x) : itF s (.d (.tuple xs)) (.d (.int i)) = some (.d x) := by
  have : atI (xs.map D.d) i = some (.d x) := by
    unfold atI at h2 ⊢
    rw [List.length_map]
    rcases h : ixN xs.length i with _ | k
    · rw [h] at h2; cases h2
    · rw [h] at h2
      simp only [Option.bind_some] at h2 ⊢
      rw [List.getElem?_map, h2]
      rfl
  unfold itF gIxU gIx asSeq
  simp only [this]
theorem itF_tl {xs : List PyData} {i : Int} {x : PyData} (h2 : atI xs i = some x) : itF s (.d (.list xs)) (.d (.int i)) = some (.d x) := by
  have : atI (xs.map D.d) i = some (.d x) := by
    unfold atI at h2 ⊢
    rw [List.length_map]
    rcases h : ixN xs.length i with _ | k
    · rw [h] at h2; cases h2
    · rw [h] at h2
      simp only [Option.bind_some] at h2 ⊢
      rw [List.getElem?_map, h2]
      rfl
  unfold itF gIxU gIx asSeq asL
  simp only [this]
theorem atI_nat {α : Type} {xs : List α} {i : Nat} {x : α} (h : xs[i]? = some x) : atI xs (i : Int) = some x := by
  have hl : i < xs.length := by
    rcases Nat.lt_or_ge i xs.length with hi | hi
    · exact hi
    · rw [List.getElem?_eq_none hi] at h; cases h
  unfold atI ixN
  rw [if_pos (by omega), if_pos (by omega)]
  simpa using h
@[simp] theorem Rs_nil : Rs (sNil e s) Qs ↔ Qs .nx e s := Rs_some
@[simp] theorem Rs_pass : Rs (sPass e s) Qs ↔ Qs .nx e s := Rs_some
@[simp] theorem Rs_ct : Rs (sCt e s) Qs ↔ Qs .ct e s := Rs_some
@[simp] theorem Rs_bk : Rs (sBk e s) Qs ↔ Qs .bk e s := Rs_some
/-- what holds behind a statement -/
def thn (b : MS) (Q : Fl → Lo → Sto → Prop) : Fl → Lo → Sto → Prop := fun fl e s => match fl with
  | .nx => Rs (b e s) Q
  | fl => Q fl e s
@[simp] theorem thn_nx (b : MS) : thn b Qs .nx e s ↔ Rs (b e s) Qs := Iff.rfl
@[simp] theorem thn_rt (b : MS) (d : D) : thn b Qs (.rt d) e s ↔ Qs (.rt d) e s := Iff.rfl
@[simp] theorem thn_bk (b : MS) : thn b Qs .bk e s ↔ Qs .bk e s := Iff.rfl
@[simp] theorem thn_ct (b : MS) : thn b Qs .ct e s ↔ Qs .ct e s := Iff.rfl
@[simp] theorem Rs_seq (a b : MS) : Rs (sSeq a b e s) Qs ↔ Rs (a e s) (thn b Qs) := by
  unfold sSeq
  rcases a e s with _ | ⟨fl, e1, s1⟩
  · simp
  · cases fl <;> simp
@[simp] theorem Rs_set (i : Nat) (m : ME) : Rs (sSet i m e s) Qs ↔ R (m e s) fun d s1 => Qs .nx (e.set i (some d)) s1 := by
  unfold sSet
  rcases m e s with _ | ⟨d, s1⟩ <;> simp
@[simp] theorem Rs_ret (m : ME) : Rs (sRet m e s) Qs ↔ R (m e s) fun d s1 => Qs (.rt d) e s1 := by
  unfold sRet
  rcases m e s with _ | ⟨d, s1⟩ <;> simp
@[simp] theorem Rs_expr (m : ME) : Rs (sExpr m e s) Qs ↔ R (m e s) fun d s1 => Qs .nx e s1 := by
  unfold sExpr
  rcases m e s with _ | ⟨d, s1⟩ <;> simp
@[simp] theorem Rs_if (mt : MT) (M1 M2 : MS) : Rs (sIf mt M1 M2 e s) Qs ↔ R (mt e s) fun k s1 => (k = true → Rs (M1 e s1) Qs) ∧ (k = false → Rs (M2 e s1) Qs) := by
  unfold sIf
  rcases mt e s with _ | ⟨_ | _, s1⟩ <;> simp
@[simp] theorem Rs_aug (i : Nat) (f : FB) (m : ME) : Rs (sAug i f m e s) Qs ↔ match e[i]? with
  | some (some u) => R (m e s) fun d s1 => R (f s1 u d) fun z s2 => Qs .nx (e.set i (some z)) s2
  | _ => False := by
  unfold sAug
  rcases e[i]? with _ | _ | u
  · simp
  · simp
  · rcases m e s with _ | ⟨d, s1⟩
    · simp
    · rcases h : f s1 u d with _ | ⟨z, s2⟩ <;> simp [h]
@[simp] theorem Rs_asg (g : MG) (m : ME) : Rs (sAsg g m e s) Qs ↔ R (m e s) fun d s1 => Rc (g d e) fun e1 => Qs .nx e1 s1 := by
  unfold sAsg
  rcases m e s with _ | ⟨d, s1⟩
  · simp
  · rcases h : g d e with _ | e1 <;> simp [h]
@[simp] theorem Rs_par (is : List Nat) (ms : MA) : Rs (sPar is ms e s) Qs ↔ R (ms e s) fun ds s1 => ds.length = is.length ∧ Qs .nx ((is.zip ds).foldl (fun e z => e.set z.1 (some z.2)) e) s1 := by
  unfold sPar
  rcases ms e s with _ | ⟨ds, s1⟩
  · simp
  · by_cases h : ds.length = is.length <;> simp [h]
@[simp] theorem g_name (k : Nat) (d : D) : gName k d e = some (e.set k (some d)) := rfl
@[simp] theorem g_tup (gs : MGs) (xs : List PyData) : gTup gs (.d (.tuple xs)) e = gs xs e := rfl
@[simp] theorem gs_nil : gsNil [] e = some e := rfl
@[simp] theorem gs_cons (g : MG) (gs : MGs) (x : PyData) (xs : List PyData) : gsCons g gs (x :: xs) e = match g (.d x) e with
  | some e1 => gs xs e1
  | none => none := rfl
@[simp] theorem gs_len (n : Nat) (gs : MGs) (xs : List PyData) : gsLenOk n gs xs e = if xs.length = n then gs xs e else none := rfl
/-- an item put -/
noncomputable def putF (s : Sto) (o i d : D) : Option Sto := match o with
  | .r j => match s[j]? with
    | some (.lst ds) => match i with
      | .d (.int i) => match ixN ds.length i with
        | some k => some (s.set j (.lst (ds.set k d)))
        | none => none
      | _ => none
    | some (.dic kvs) => match i with
      | .d x => if isKey x ∧ kvs.length < lim then some (s.set j (.dic (dPut kvs x d))) else none
      | _ => none
    | some (.dk kvs) => match i with
      | .d x => match keyOf x with
        | some k => if kvs.length < lim then some (s.set j (.dk (kPut kvs k d))) else none
        | none => none
      | _ => none
    | _ => none
  | _ => none
theorem Rs_pu {ma mi mv : ME} : Rs (sPu ma mi mv e s) Qs ↔ R (mv e s) fun d s1 => R (ma e s1) fun o s2 => R (mi e s2) fun i s3 => Rc (putF s3 o i d) fun s4 => Qs .nx e s4 := by
  unfold sPu sPutU sPut sPutD sPutK putL putF
  rcases h1 : mv e s with _ | ⟨d, s1⟩
  · simp
  · rcases h2 : ma e s1 with _ | ⟨o, s2⟩
    · simp [h2]
    · rcases h3 : mi e s2 with _ | ⟨i, s3⟩
      · rcases o with x | j <;> simp [h2, h3]
      · rcases o with x | j
        · rcases i with x | j
          · cases x <;> simp [h2, h3]
          · simp [h2, h3]
        · rcases h4 : s3[j]? with _ | c
          · rcases i with x | j
            · cases x <;> simp [h2, h3, h4]
            · simp [h2, h3, h4]
          · rcases i with x | j
            · rcases c with ds | kvs | kvs | kvs | ⟨rl, rh⟩ | td | ⟨iC, ifs⟩ | _
              · cases x <;> simp [h2, h3, h4]
                rename_i i
                rcases h5 : ixN ds.length i with _ | k <;> simp [h5]
              · by_cases hk : isKey x ∧ kvs.length < lim
                · cases x <;> simp [h2, h3, h4, hk]
                · cases x <;> simp [h2, h3, h4, hk]
              · have hk : isKey x = true → keyOf x = none ∨ True := fun _ => .inr trivial
                rcases h5 : keyOf x with _ | k
                · cases x <;> simp [h2, h3, h4, h5]
                · by_cases hl : kvs.length < lim <;> cases x <;> simp [h2, h3, h4, h5, hl]
              · cases x <;> simp [h2, h3, h4]
              · cases x <;> simp [h2, h3, h4]
              · cases x <;> simp [h2, h3, h4]
              · cases x <;> simp [h2, h3, h4]
              · cases x <;> simp [h2, h3, h4]
            · rcases c with ds | kvs | kvs | kvs | ⟨rl, rh⟩ | td | ⟨iC, ifs⟩ | _ <;> simp [h2, h3, h4]
theorem putF_l {j k : Nat} {ds : List D} {i : Int} {d : D} (h : s[j]? = some (.lst ds)) (h2 : ixN ds.length i = some k) : putF s (.r j) (.d (.int i)) d = some (s.set j (.lst (ds.set k d))) := by
  unfold putF
  simp only [h, h2]
theorem putF_k {j : Nat} {kvs : List (PyData × D)} {xs : List PyData} {d : D} (h : s[j]? = some (.dic kvs)) (hk : isKey (.tuple xs) = true) (hl : kvs.length < lim) : putF s (.r j) (.d (.tuple xs)) d = some (s.set j (.dic (dPut kvs (.tuple xs) d))) := by
  unfold putF
  simp only [h]
  rw [if_pos ⟨hk, hl⟩]
theorem R_fn {np n : Nat} {own : Bool} {M : MS} {ds : List D} : R (fnR np n own M s ds) Q ↔ ds.length = np ∧ Rs (M (ds.map some ++ List.replicate (n - np) none) s) fun fl _ s' => match fl with
  | .rt d => R (ret own s d s') Q
  | .nx => R (ret own s (.d .none) s') Q
  | _ => False := by
  unfold fnR
  by_cases h : ds.length = np
  · rw [if_pos h]
    rcases M (ds.map some ++ List.replicate (n - np) none) s with _ | ⟨fl, e1, s1⟩
    · simp [h]
    · cases fl <;> simp [h]
  · rw [if_neg h]; simp [h]
@[simp] theorem v_sub (i j : Int) : oSub s (.d (.int i)) (.d (.int j)) = some (.d (.int (i - j)), s) := rfl
@[simp] theorem v_add (own : Bool) (i j : Int) : oAdd own s (.d (.int i)) (.d (.int j)) = some (.d (.int (i + j)), s) := rfl
@[simp] theorem v_iadd (i j : Int) : oIadd s (.d (.int i)) (.d (.int j)) = some (.d (.int (i + j)), s) := rfl
@[simp] theorem v_addT (own : Bool) (xs ys : List PyData) : R (oAdd own s (.d (.tuple xs)) (.d (.tuple ys))) Q ↔ xs.length + ys.length ≤ lim ∧ Q (.d (.tuple (xs ++ ys))) s := by
  unfold oAdd
  by_cases h : xs.length + ys.length ≤ lim <;> simp [h]
theorem v_mul {i j : Int} (h : ((-(2 ^ 64) < i ∧ i < 2 ^ 64) ∨ (-(2 ^ 64) < j ∧ j < 2 ^ 64)) ∨ i.natAbs.log2 + j.natAbs.log2 < 1000000) : oMul s (.d (.int i)) (.d (.int j)) = some (.d (.int (i * j)), s) := by
  unfold oMul
  simp only [if_pos h]
theorem v_mulL {i j : Int} (h : -(2 ^ 64) < i ∧ i < 2 ^ 64) : oMul s (.d (.int i)) (.d (.int j)) = some (.d (.int (i * j)), s) := v_mul (.inl (.inl h))
theorem v_mulR {i j : Int} (h : -(2 ^ 64) < j ∧ j < 2 ^ 64) : oMul s (.d (.int i)) (.d (.int j)) = some (.d (.int (i * j)), s) := v_mul (.inl (.inr h))
theorem log2_small {j : Int} (h' : j.natAbs < 2 ^ 256) : j.natAbs.log2 ≤ 256 := by
  by_cases h0 : j.natAbs = 0
  · rw [h0]; decide
  · have := (Nat.log2_lt (n := j.natAbs) (k := 256) h0).mpr h'
    omega
theorem v_div {i j : Int} (h : 0 < j) (h' : j < 2 ^ 256) : oDiv s (.d (.int i)) (.d (.int j)) = some (.d (.int (i / j)), s) := by
  have := log2_small (j := j) (by omega)
  unfold oDiv i2
  simp only [if_pos (show 0 < j ∧ j.natAbs.log2 < 9000 from ⟨h, by omega⟩)]
theorem v_mod {i j : Int} (h : 0 < j) : oMod s (.d (.int i)) (.d (.int j)) = some (.d (.int (i % j)), s) := by
  unfold oMod i2
  simp only [if_pos h]
@[simp] theorem v_xor (i j : Int) : oXor s (.d (.int i)) (.d (.int j)) = some (.d (.int (Builtin.bitXor i j)), s) := rfl
@[simp] theorem v_lt (i j : Int) : cLt s (.d (.int i)) (.d (.int j)) = some (decide (i < j)) := rfl
@[simp] theorem v_le (i j : Int) : cLe s (.d (.int i)) (.d (.int j)) = some (decide (i ≤ j)) := rfl
@[simp] theorem v_gt (i j : Int) : cGt s (.d (.int i)) (.d (.int j)) = some (decide (j < i)) := rfl
@[simp] theorem v_ge (i j : Int) : cGe s (.d (.int i)) (.d (.int j)) = some (decide (j ≤ i)) := rfl
@[simp] theorem v_eq (i j : Int) : cEq s (.d (.int i)) (.d (.int j)) = some (decide (i = j)) := rfl
@[simp] theorem v_ne (i j : Int) : cNe s (.d (.int i)) (.d (.int j)) = some (!decide (i = j)) := rfl
@[simp] theorem v_isN (a : D) : cIsN false s a (.d .none) = some (isNone a) := rfl
@[simp] theorem v_isNn (a : D) : cIsN true s a (.d .none) = some (!isNone a) := rfl
@[simp] theorem isNone_n : isNone (.d .none) = true := rfl
@[simp] theorem isNone_r (j : Nat) : isNone (.r j) = false := rfl
@[simp] theorem isNone_i (i : Int) : isNone (.d (.int i)) = false := rfl
@[simp] theorem isNone_t (xs : List PyData) : isNone (.d (.tuple xs)) = false := rfl
@[simp] theorem isNone_l (xs : List PyData) : isNone (.d (.list xs)) = false := rfl
@[simp] theorem isNone_b (b : Bool) : isNone (.d (.bool b)) = false := rfl
@[simp] theorem v_int (i : Int) : bInt s [.d (.int i)] = some (.d (.int i), s) := rfl
@[simp] theorem tru_b (b : Bool) : truD s (.d (.bool b)) = some b := rfl
@[simp] theorem tru_i (i : Int) : truD s (.d (.int i)) = some (i != 0) := rfl
@[simp] theorem tru_t (xs : List PyData) : truD s (.d (.tuple xs)) = some (!xs.isEmpty) := rfl
@[simp] theorem tru_l (xs : List PyData) : truD s (.d (.list xs)) = some (!xs.isEmpty) := rfl
@[simp] theorem tru_n : truD s (.d .none) = some false := rfl
@[simp] theorem pd_d (x : PyData) : pd s (.d x) = some x := rfl
@[simp] theorem data_nil : data [] = some [] := rfl
@[simp] theorem data_cons (x : PyData) (ds : List D) : data (.d x :: ds) = match data ds with
  | some xs => some (x :: xs)
  | none => none := rfl
@[simp] theorem len_t (xs : List PyData) : bLen s [.d (.tuple xs)] = some (.d (.int xs.length), s) := rfl
theorem len_l (xs : List PyData) : bLen s [.d (.list xs)] = some (.d (.int xs.length), s) := by
  unfold bLen f1 lenG asL
  simp
theorem len_r {j : Nat} {ds : List D} (h : s[j]? = some (.lst ds)) : bLen s [.r j] = some (.d (.int ds.length), s) := by
  unfold bLen f1 lenG asL
  simp [h]
@[simp] theorem v_tupT (xs : List PyData) : bTuple s [.d (.tuple xs)] = some (.d (.tuple xs), s) := rfl
theorem v_tupL (xs : List PyData) : bTuple s [.d (.list xs)] = some (.d (.tuple xs), s) := by
  unfold bTuple asL
  simp [data_map]
theorem v_tupR {j : Nat} {xs : List PyData} (h : s[j]? = some (.lst (xs.map .d))) : bTuple s [.r j] = some (.d (.tuple xs), s) := by
  unfold bTuple asL
  simp [h, data_map]
end
end N

namespace N
open PySem L2 PyProof.Rows

/-- what the store's cells refer to is in it -/
def Wf (s : Sto) : Prop := ∀ c ∈ s, c.below s.length
theorem safe_wf {s0 s g : Sto} (hl : s.length = s0.length) (h : Wf s) : Safe s0 (s ++ g) := by
  refine ⟨by simp; omega, fun j c hj hc => ?_⟩
  rw [List.getElem?_append_left (by omega)] at hc
  exact .inr (by rw [← hl]; exact h c (List.mem_of_getElem? hc))
theorem trim_wf {s0 s g : Sto} (hl : s.length = s0.length) (h : Wf s) : trim s0 (s ++ g) = s := by
  unfold trim
  rw [if_pos (safe_wf hl h), ← hl, List.take_left]
theorem trim_wf' {s0 s : Sto} (hl : s.length = s0.length) (h : Wf s) : trim s0 s = s := by
  have := trim_wf (g := []) hl h
  rwa [List.append_nil] at this
section
variable {e : Lo} {s : Sto} {Q : D → Sto → Prop} {Qt : Bool → Sto → Prop} {Qa : List D → Sto → Prop} {Qs : Fl → Lo → Sto → Prop} {Qo : Option Int → Sto → Prop} {Qi : List D → Option (Nat × List D) → Sto → Prop}
@[simp] theorem Ri_rng1 (ms : MA) : Ri (iRng1 ms e s) Qi ↔ R (ms e s) fun ds s1 => match ds with
  | [.d (.int j)] => (-(2 ^ 62) ≤ j ∧ j < 2 ^ 62) ∧ Qi (rngD 0 j.toNat) none s1
  | _ => False := by
  unfold iRng1
  rcases ms e s with _ | ⟨ds, s1⟩
  · simp
  · simp only [R_some]
    split
    · rename_i j s2 h
      cases h
      by_cases h : -(2 ^ 62) ≤ j ∧ j < 2 ^ 62
      · simp only [if_pos h, Ri_some]
        exact ⟨fun q => ⟨h, q⟩, fun q => q.2⟩
      · simp only [if_neg h, Ri_none, false_iff]
        exact fun q => h q.1
    · rename_i h
      simp only [Ri_none, false_iff]
      split
      · rename_i j
        exact (h j _ rfl).elim
      · exact id
@[simp] theorem Ri_rng2 (ms : MA) : Ri (iRng2 ms e s) Qi ↔ R (ms e s) fun ds s1 => match ds with
  | [.d (.int i), .d (.int j)] => (-(2 ^ 62) ≤ i ∧ i < 2 ^ 62 ∧ -(2 ^ 62) ≤ j ∧ j < 2 ^ 62) ∧ Qi (rngD i (j - i).toNat) none s1
  | _ => False := by
  unfold iRng2
  rcases ms e s with _ | ⟨ds, s1⟩
  · simp
  · simp only [R_some]
    split
    · rename_i i j s2 h
      cases h
      by_cases h : -(2 ^ 62) ≤ i ∧ i < 2 ^ 62 ∧ -(2 ^ 62) ≤ j ∧ j < 2 ^ 62
      · simp only [if_pos h, Ri_some]
        exact ⟨fun q => ⟨h, q⟩, fun q => q.2⟩
      · simp only [if_neg h, Ri_none, false_iff]
        exact fun q => h q.1
    · rename_i h
      simp only [Ri_none, false_iff]
      split
      · rename_i i j
        exact (h i j _ rfl).elim
      · exact id
@[simp] theorem Ri_seq (m : ME) : Ri (iSeq m e s) Qi ↔ R (m e s) fun d s1 => match d with
  | .d (.tuple xs) => Qi (xs.map .d) none s1
  | .d (.list xs) => Qi (xs.map .d) none s1
  | .r j => match s1[j]? with
    | some (.lst ds) => Qi ds (some (j, ds)) s1
    | _ => False
  | _ => False := by
  unfold iSeq iLst
  rcases m e s with _ | ⟨d, s1⟩
  · simp
  · rcases d with x | j
    · cases x <;> simp
    · simp
      rcases s1[j]? with _ | c
      · simp
      · cases c <;> simp
@[simp] theorem Ri_enumT (m : ME) : Ri (iEnum (aCons m aNil) e s) Qi ↔ R (m e s) fun d s1 => match d with
  | .d (.tuple xs) => Qi (enumD xs) none s1
  | .d (.list xs) => Qi (enumD xs) none s1
  | d => Ri (iEnum (fun _ _ => some ([d], s1)) e s1) Qi := by
  unfold iEnum aCons aNil
  rcases m e s with _ | ⟨d, s1⟩
  · simp
  · rcases d with x | j
    · cases x <;> simp
    · simp
/-- a for -/
def aft (Iv : Lo → Sto → Prop) (Qs : Fl → Lo → Sto → Prop) (dead : List Nat) (s : Sto) : Fl → Lo → Sto → Prop := fun fl e2 s2 => match fl with
  | .nx => Iv (wipeN e2 dead) (trimE s (wipeN e2 dead) s2)
  | .ct => Iv (wipeN e2 dead) (trimE s (wipeN e2 dead) s2)
  | .rt d => Qs (.rt d) e2 s2
  | .bk => Qs .nx e2 s2
@[simp] theorem aft_nx {Iv : Lo → Sto → Prop} {dead : List Nat} {s0 : Sto} : aft Iv Qs dead s0 .nx e s ↔ Iv (wipeN e dead) (trimE s0 (wipeN e dead) s) := Iff.rfl
@[simp] theorem aft_ct {Iv : Lo → Sto → Prop} {dead : List Nat} {s0 : Sto} : aft Iv Qs dead s0 .ct e s ↔ Iv (wipeN e dead) (trimE s0 (wipeN e dead) s) := Iff.rfl
@[simp] theorem aft_rt {Iv : Lo → Sto → Prop} {dead : List Nat} {s0 : Sto} {d : D} : aft Iv Qs dead s0 (.rt d) e s ↔ Qs (.rt d) e s := Iff.rfl
@[simp] theorem aft_bk {Iv : Lo → Sto → Prop} {dead : List Nat} {s0 : Sto} : aft Iv Qs dead s0 .bk e s ↔ Qs .nx e s := Iff.rfl
theorem Rs_forL {α : Type} {enc : α → D} {g : MG} {M : MS} {dead : List Nat} (Iv : Nat → Lo → Sto → Prop) (q : ∀ (e : Lo) (s : Sto) (N : Nat), Iv N e s → True) : ∀ (l : List α) (n : Nat) (e : Lo) (s : Sto), (∀ i x e s, l[i]? = some x → Iv (n + i) e s → Rc (g (enc x) e) fun e1 => Rs (M e1 s) (aft (Iv (n + i + 1)) Qs dead s)) → (∀ e s, Iv (n + l.length) e s → Qs .nx e s) → Iv n e s →
    Rs (forL none (turnF g M dead) (l.map enc) e s) Qs
  | [], n, e, s, h, q, h0 => by
    rw [List.map_nil]
    unfold forL
    rw [if_pos (ck_none _), Rs_some]
    exact q e s h0
  | x :: l, n, e, s, h, q', h0 => by
    rw [List.map_cons]
    unfold forL
    rw [if_pos (ck_none _)]
    obtain ⟨e1, h1, fl, e2, s2, h2, h3⟩ := h 0 x e s rfl h0
    have hh : ∀ i y e s, l[i]? = some y → Iv (n + 1 + i) e s → Rc (g (enc y) e) fun e1 => Rs (M e1 s) (aft (Iv (n + 1 + i + 1)) Qs dead s) := fun i y e s hy hi => by
      have := h (i + 1) y e s (by simpa using hy) (by rw [show n + (i + 1) = n + 1 + i by omega]; exact hi)
      rw [show n + (i + 1) = n + 1 + i by omega] at this
      exact this
    have hq : ∀ e s, Iv (n + 1 + l.length) e s → Qs .nx e s := fun e s hi => q' e s (by rw [show n + (x :: l).length = n + 1 + l.length by simp; omega]; exact hi)
    unfold turnF
    simp only [h1, h2]
    cases fl with
    | nx => exact Rs_forL Iv q l (n + 1) _ _ hh hq h3
    | ct => exact Rs_forL Iv q l (n + 1) _ _ hh hq h3
    | bk => exact Rs_some.mpr h3
    | rt d => exact Rs_some.mpr h3
theorem Rs_for {α : Type} (l : List α) (enc : α → D) {mi : MI} {g : MG} {M : MS} {dead : List Nat} (Iv : Nat → Lo → Sto → Prop) (hi : Ri (mi e s) fun items ck s1 => items = l.map enc ∧ ck = none ∧ Iv 0 e s1)
    (h : ∀ i x e s, l[i]? = some x → Iv i e s → Rc (g (enc x) e) fun e1 => Rs (M e1 s) (aft (Iv (i + 1)) Qs dead s)) (q : ∀ e s, Iv l.length e s → Qs .nx e s) : Rs (sFor mi g M dead e s) Qs := by
  obtain ⟨_, _, s1, h1, rfl, rfl, h2⟩ := hi
  unfold sFor
  simp only [h1]
  refine Rs_forL Iv (fun _ _ _ _ => trivial) l 0 e s1 (fun i x e s hx hi => ?_) (fun e s hi => q e s (by rwa [Nat.zero_add] at hi)) h2
  rw [Nat.zero_add] at hi ⊢
  exact h i x e s hx hi
/-- a while: a measure falls -/
theorem Rs_whileL {mt : MT} {M : MS} {dead : List Nat} (Iv : Nat → Lo → Sto → Prop) (h : ∀ m e s, Iv m e s → R (mt e s) fun b s1 => (b = false → Qs .nx e s1) ∧ (b = true → Rs (M e s1) (aft (fun e s => ∃ m', m' < m ∧ Iv m' e s) Qs dead s))) : ∀ (m n : Nat) (e : Lo) (s : Sto), m < n → Iv m e s → Rs (whileL mt M dead n e s) Qs := by
  intro m
  induction m using Nat.strongRecOn with
  | _ m ih =>
    intro n e s hn hi
    obtain ⟨n, rfl⟩ : ∃ k, n = k + 1 := ⟨n - 1, by omega⟩
    unfold whileL
    obtain ⟨b, s1, h1, h2, h3⟩ := h m e s hi
    cases b with
    | false => simp only [h1]; exact Rs_some.mpr (h2 rfl)
    | true =>
      obtain ⟨fl, e2, s2, h4, h5⟩ := h3 rfl
      simp only [h1, h4]
      cases fl with
      | nx =>
        obtain ⟨m', h6, h7⟩ := h5
        exact ih m' h6 n _ _ (by omega) h7
      | ct =>
        obtain ⟨m', h6, h7⟩ := h5
        exact ih m' h6 n _ _ (by omega) h7
      | bk => exact Rs_some.mpr h5
      | rt d => exact Rs_some.mpr h5
theorem Rs_while {mt : MT} {M : MS} {dead : List Nat} (Iv : Nat → Lo → Sto → Prop) {m : Nat} (hm : m < 2 ^ 64) (h0 : Iv m e s) (h : ∀ m e s, Iv m e s → R (mt e s) fun b s1 => (b = false → Qs .nx e s1) ∧ (b = true → Rs (M e s1) (aft (fun e s => ∃ m', m' < m ∧ Iv m' e s) Qs dead s))) : Rs (sWhile mt M dead e s) Qs :=
  Rs_whileL Iv h m _ e s hm h0
/-- a comprehension whose turns leave the store -/
theorem R_lc {α : Type} (l : List α) (enc : α → D) (f : α → PyData) (p : α → Bool) {vs : List Nat} {mi : MI} {g : MG} {mt : MT} {el : ME} (hi : Ri (mi e s) fun items ck s1 => items = l.map enc ∧ ck = none ∧ s1 = s)
    (h : ∀ x ∈ l, ∀ acc, Rc (g (enc x) (wipeN e vs)) fun e1 => R (mt e1 (s ++ [.lst acc])) fun b s2 => b = p x ∧ s2 = s ++ [.lst acc] ∧ (p x = true → R (el e1 (s ++ [.lst acc])) fun d s3 => d = .d (f x) ∧ s3 = s ++ [.lst acc])) (hl : l.length ≤ lim) (q : Q (.d (.list ((l.filter p).map f))) s) : R (eLc false vs mi g mt el e s) Q := by
  obtain ⟨_, _, _, h1, rfl, rfl, rfl⟩ := hi
  refine R.of (eLc_d f p h1 (fun x hx acc => ?_) hl) q
  obtain ⟨e1, h2, b, s2, h3, rfl, rfl, h4⟩ := h x hx acc
  refine ⟨e1, h2, h3, fun hp => ?_⟩
  obtain ⟨_, _, h5, rfl, rfl⟩ := h4 hp
  exact h5
/-- .. that takes each -/
theorem R_lcm {α : Type} (l : List α) (enc : α → D) (f : α → PyData) {vs : List Nat} {mi : MI} {g : MG} {el : ME} (hi : Ri (mi e s) fun items ck s1 => items = l.map enc ∧ ck = none ∧ s1 = s)
    (h : ∀ x ∈ l, ∀ acc, Rc (g (enc x) (wipeN e vs)) fun e1 => R (el e1 (s ++ [.lst acc])) fun d s3 => d = .d (f x) ∧ s3 = s ++ [.lst acc]) (hl : l.length ≤ lim) (q : Q (.d (.list (l.map f))) s) : R (eLc false vs mi g tTrue el e s) Q := by
  refine R_lc l enc f (fun _ => true) hi (fun x hx acc => ?_) hl (by rwa [List.filter_eq_self.mpr (fun _ _ => rfl)])
  obtain ⟨e1, h1, h2⟩ := h x hx acc
  exact ⟨e1, h1, R_tTrue.mpr ⟨rfl, rfl, fun _ => h2⟩⟩
/-- .. whose turns change the store -/
theorem R_lcI {α : Type} (l : List α) (enc : α → D) (k : Nat) (Iv : Nat → List PyData → Sto → Prop) {vs : List Nat} {mi : MI} {g : MG} {mt : MT} {el : ME} (hi : Ri (mi e s) fun items ck s1 => items = l.map enc ∧ ck = none ∧ Iv 0 [] s1)
    (hk : ∀ i acc s, Iv i acc s → s.length = k ∧ Wf s) (h : ∀ i x acc s, l[i]? = some x → Iv i acc s → Rc (g (enc x) (wipeN e vs)) fun e1 => R (mt e1 (s ++ [.lst (acc.map .d)])) fun b s1 => (b = false → ∃ s', s1 = s' ++ [.lst (acc.map .d)] ∧ Iv (i + 1) acc s') ∧ (b = true → R (el e1 s1) fun y s2 => ∃ z s', y = .d z ∧ s2 = s' ++ [.lst (acc.map .d)] ∧ Iv (i + 1) (acc ++ [z]) s'))
    (hl : l.length ≤ lim) (q : ∀ acc s, Iv l.length acc s → Q (.d (.list acc)) s) : R (eLc false vs mi g mt el e s) Q := by
  obtain ⟨_, _, s1, h1, rfl, rfl, h2⟩ := hi
  have hk1 := (hk _ _ _ h2).1
  obtain ⟨acc', s', h3, xs, rfl, h4⟩ := lcL_inv (k := k) (g := g) (mt := mt) (el := el) (e0 := wipeN e vs) (enc := enc) (fun i acc s => ∃ xs : List PyData, acc = xs.map .d ∧ Iv i xs s) (fun i acc s ⟨xs, _, hi⟩ => (hk _ _ _ hi).1) l 0 [] s1 (fun i x acc s hx ⟨xs, ea, hi⟩ => by
    subst ea
    rw [Nat.zero_add] at hi ⊢
    obtain ⟨e1, h5, b, s2, h6, h7, h8⟩ := h i x xs s hx hi
    refine ⟨e1, h5, ?_⟩
    cases b with
    | false =>
      obtain ⟨s', rfl, h9⟩ := h7 rfl
      exact .inl ⟨s', h6, xs, rfl, h9⟩
    | true =>
      obtain ⟨y, s3, h9, z, s', rfl, rfl, h10⟩ := h8 rfl
      exact .inr ⟨s2, _, s', h6, h9, xs ++ [z], by simp, h10⟩) (by simpa using hl) ⟨[], rfl, h2⟩
  rw [Nat.zero_add] at h4
  have hk2 := hk _ _ _ h4
  refine R.of (x := .d (.list xs)) (s := s') ?_ (q _ _ h4)
  unfold eLc
  simp only [h1]
  rw [hk1, h3]
  unfold lcFin
  simp only []
  rw [List.getElem?_append_right (by omega), show s1.length - s'.length = 0 by omega]
  simp only [List.getElem?_cons_zero, data_map, Bool.false_eq_true, if_false]
  rw [List.set_append_right _ _ (by omega)]
  rw [trim_wf (by omega) hk2.2]
end
end N

namespace N
open PySem L2 PyProof.Rows

mutual
def pk : PyData → Bool
  | .none => true
  | .int _ => true
  | .str _ => true
  | .tuple xs => pks xs
  | .list xs => pks xs
  | _ => false
def pks : List PyData → Bool
  | [] => true
  | x :: xs => pk x && pks xs
end
theorem pks_iff : ∀ {xs : List PyData}, pks xs = true ↔ ∀ x ∈ xs, pk x = true
  | [] => by simp [pks]
  | x :: xs => by simp [pks, pks_iff (xs := xs)]
mutual
theorem pk_plain : ∀ {x : PyData}, pk x = true → x.plain = true
  | .none, _ => rfl
  | .int _, _ => rfl
  | .str _, _ => rfl
  | .tuple xs, h => by unfold PyData.plain; exact pks_plain (by simpa [pk] using h)
  | .list xs, h => by unfold PyData.plain; exact pks_plain (by simpa [pk] using h)
  | .bool _, h => by simp [pk] at h
  | .dict _, h => by simp [pk] at h
theorem pks_plain : ∀ {xs : List PyData}, pks xs = true → PyData.plainAll xs = true
  | [], _ => rfl
  | x :: xs, h => by
    simp only [pks, Bool.and_eq_true] at h
    simp only [PyData.plainAll, Bool.and_eq_true]
    exact ⟨pk_plain h.1, pks_plain h.2⟩
end
mutual
theorem pk_eqv : ∀ {x y : PyData}, pk x = true → pk y = true → PyData.eqv x y = decide (x = y)
  | .none, y, _, h => by cases y <;> simp [PyData.eqv, pk] at h ⊢
  | .int _, y, _, h => by
    cases y with
    | int j => unfold PyData.eqv; simp [Bool.beq_eq_decide_eq]
    | _ => simp [PyData.eqv, pk] at h ⊢
  | .str _, y, _, h => by
    cases y with
    | str j => unfold PyData.eqv; simp [Bool.beq_eq_decide_eq]
    | _ => simp [PyData.eqv, pk] at h ⊢
  | .tuple xs, y, hx, h => by
    cases y with
    | tuple ys =>
      unfold PyData.eqv
      rw [pks_eqv (by simpa [pk] using hx) (by simpa [pk] using h)]
      simp
    | _ => simp [PyData.eqv, pk] at h ⊢
  | .list xs, y, hx, h => by
    cases y with
    | list ys =>
      unfold PyData.eqv
      rw [pks_eqv (by simpa [pk] using hx) (by simpa [pk] using h)]
      simp
    | _ => simp [PyData.eqv, pk] at h ⊢
  | .bool _, _, h, _ => by simp [pk] at h
  | .dict _, _, h, _ => by simp [pk] at h
theorem pks_eqv : ∀ {xs ys : List PyData}, pks xs = true → pks ys = true → PyData.eqvAll xs ys = decide (xs = ys)
  | [], [], _, _ => by simp [PyData.eqvAll]
  | [], _ :: _, _, _ => by simp [PyData.eqvAll]
  | _ :: _, [], _, _ => by simp [PyData.eqvAll]
  | x :: xs, y :: ys, h, h' => by
    simp only [pks, Bool.and_eq_true] at h h'
    unfold PyData.eqvAll
    rw [pk_eqv h.1 h'.1, pks_eqv h.2 h'.2]
    simp
end
section
variable {s : Sto}
theorem eqv_gen {a b : D} {x y : PyData} (ha : pd s a = some x) (hb : pd s b = some y) (hx : pk x = true) (hy : pk y = true) (hd : min x.depth y.depth ≤ 60) : cEqv s a b = some (decide (x = y)) := by
  unfold cEqv
  split
  · rename_i i j
    simp only [pd, Option.some.injEq] at ha hb
    subst ha; subst hb
    simp
  · simp only [ha, hb]
    rw [if_pos ⟨pk_plain hx, pk_plain hy, hd⟩, pk_eqv hx hy]
theorem v_eqP {a b : D} {x y : PyData} (ha : pd s a = some x) (hb : pd s b = some y) (hx : pk x = true) (hy : pk y = true) (hd : min x.depth y.depth ≤ 60) : cEq s a b = some (decide (x = y)) := eqv_gen ha hb hx hy hd
theorem v_neP {a b : D} {x y : PyData} (ha : pd s a = some x) (hb : pd s b = some y) (hx : pk x = true) (hy : pk y = true) (hd : min x.depth y.depth ≤ 60) : cNe s a b = some (!decide (x = y)) := by
  unfold cNe
  rw [eqv_gen ha hb hx hy hd]
@[simp] theorem v_eqB (a b : Bool) : cEq s (.d (.bool a)) (.d (.bool b)) = some (decide (a = b)) := by
  unfold cEq cEqv
  simp [PyData.plain, PyData.depth, PyData.eqv, Bool.beq_eq_decide_eq]
@[simp] theorem v_neB (a b : Bool) : cNe s (.d (.bool a)) (.d (.bool b)) = some (!decide (a = b)) := by
  unfold cNe cEqv
  simp [PyData.plain, PyData.depth, PyData.eqv, Bool.beq_eq_decide_eq]
@[simp] theorem v_eqS (a b : Str) : cEq s (.d (.str a)) (.d (.str b)) = some (decide (a = b)) := v_eqP rfl rfl rfl rfl (by simp [PyData.depth]) |>.trans (by simp)
/-- in -/
theorem any_pk {ds : List PyData} {x : PyData} (h : pks ds = true) (hx : pk x = true) : (ds.any fun z => PyData.eqv z x) = decide (x ∈ ds) := by
  induction ds with
  | nil => simp
  | cons d ds ih =>
    simp only [pks, Bool.and_eq_true] at h
    rw [List.any_cons, ih h.2, pk_eqv h.1 hx]
    by_cases e : d = x
    · simp [e]
    · simp [e, Ne.symm e, List.mem_cons, show x ≠ d from fun h => e h.symm]
theorem v_inQ {neg : Bool} {ds : List PyData} {x : PyData} (h : pks ds = true) (hx : pk x = true) (hd : min (PyData.depthAll ds) x.depth ≤ 60) : cInQ neg x ds = some (if neg then !decide (x ∈ ds) else decide (x ∈ ds)) := by
  unfold cInQ
  rw [if_pos ⟨pks_plain h, pk_plain hx, hd⟩, any_pk h hx]
theorem v_inT {neg : Bool} {ds : List PyData} {a : D} {x : PyData} (ha : pd s a = some x) (h : pks ds = true) (hx : pk x = true) (hd : min (PyData.depthAll ds) x.depth ≤ 60) : cIn neg s a (.d (.tuple ds)) = some (if neg then !decide (x ∈ ds) else decide (x ∈ ds)) := by
  unfold cIn
  simp only [ha]
  exact v_inQ h hx hd
theorem v_inL {neg : Bool} {ds : List PyData} {a : D} {x : PyData} (ha : pd s a = some x) (h : pks ds = true) (hx : pk x = true) (hd : min (PyData.depthAll ds) x.depth ≤ 60) : cIn neg s a (.d (.list ds)) = some (if neg then !decide (x ∈ ds) else decide (x ∈ ds)) := by
  unfold cIn
  simp only [ha]
  exact v_inQ h hx hd
theorem v_inK {neg : Bool} {j : Nat} {kvs : List (Key × D)} {x : PyData} {k : Key} (h : s[j]? = some (.dk kvs)) (hk : keyOf x = some k) : cIn neg s (.d x) (.r j) = some (if neg then !kHas kvs k else kHas kvs k) := by
  unfold cIn
  simp only [h, hk]
end
theorem kOK_ints (ns : List Int) : Z.kOKs (ns.map PyData.int) = true := by
  induction ns with
  | nil => rfl
  | cons n ns ih => simp [Z.kOKs, Z.kOK, ih]
theorem dep_ints (ns : List Int) : Z.deps (ns.map PyData.int) = 0 := by
  induction ns with
  | nil => rfl
  | cons n ns ih => simp [Z.deps, Z.dep, ih]
theorem key_ints (ns : List Int) : isKey (.tuple (ns.map PyData.int)) = true := by
  simp [isKey, Z.isTup, Z.kOK, kOK_ints, Z.dep, dep_ints]
theorem intsOf_ints (ns : List Int) : intsOf ((ns.map PyData.int).map D.d) = some ns := by
  induction ns with
  | nil => rfl
  | cons n ns ih => simp only [List.map_cons, intsOf, ih]
end N

namespace N
open PySem L2 PyProof.Rows

theorem R_retd {own : Bool} {s s' : Sto} {x : PyData} {Q : D → Sto → Prop} : R (ret own s (.d x) s') Q ↔ Q (.d x) (trim s s') := R_some
/-- the tape stands in cells 0 and 1, what follows is kept -/
def tp (xs : List Int) (p q r : Int) (rest : Sto) : Sto := .lst (xs.map fun i => .d (.int i)) :: .lst [.r 0, .d (.int p), .d (.int q), .d (.int r)] :: rest
def TS (rest s : Sto) : Prop := ∃ xs p q r, 0 ≤ p ∧ s = tp xs p q r rest
section
variable {xs : List Int} {p q r : Int} {rest : Sto}
end
end N

namespace N
open PySem L2 PyProof.Rows

noncomputable def b__law_same (rec : FA) : MS := (sSeq (sIf (tOr (tAnd (tVal (eIsi .tup (eVar 0))) (tVal (eIsi .tup (eVar 1)))) (tAnd (tVal (eIsi .lst (eVar 0))) (tVal (eIsi .lst (eVar 1))))) (sSeq (sRet (eAnd (eCmp cEq (eCall bLen (aCons (eVar 0) aNil)) (eCall bLen (aCons (eVar 1) aNil))) (eCall bAll (aCons (eLc false [2] (iRng1 (aCons (eCall bLen (aCons (eVar 0) aNil)) aNil)) (gName 2) tTrue (eCall rec (aCons (eIt (eVar 0) (eVar 2)) (aCons (eIt (eVar 1) (eVar 2)) aNil)))) aNil))))
  sNil) sNil)
  (sSeq (sIf (tOr (tVal (eIsi .bl (eVar 0))) (tVal (eIsi .bl (eVar 1)))) (sSeq (sRet (eAnd (eIsi .bl (eVar 0)) (eAnd (eIsi .bl (eVar 1)) (eCmp cEq (eVar 0) (eVar 1)))))
  sNil) sNil)
  (sSeq (sIf (tOr (tAnd (tVal (eIsi .int (eVar 0))) (tVal (eIsi .int (eVar 1)))) (tAnd (tVal (eIsi .str (eVar 0))) (tVal (eIsi .str (eVar 1))))) (sSeq (sRet (eCmp cEq (eVar 0) (eVar 1)))
  sNil) sNil)
  (sSeq (sRet (eAnd (eCmp (cIsN false) (eVar 0) (eC .none)) (eCmp (cIsN false) (eVar 1) (eC .none))))
  sNil))))
noncomputable def m__law_same : Nat → FA
  | 0 => fun _ _ => none
  | n + 1 => fnR 2 3 false (b__law_same (m__law_same n))
/-- data that is equal to itself, of no great depth -/
def sok : Nat → PyData → Prop
  | 0, _ => False
  | n + 1, .tuple xs => xs.length ≤ lim ∧ ∀ x ∈ xs, sok n x
  | n + 1, .list xs => xs.length ≤ lim ∧ ∀ x ∈ xs, sok n x
  | _ + 1, .dict _ => False
  | _ + 1, _ => True
theorem sok_int (n : Nat) (i : Int) : sok (n + 1) (.int i) := by unfold sok; trivial
theorem sok_tup {n : Nat} {xs : List PyData} (hl : xs.length ≤ lim) (h : ∀ x ∈ xs, sok n x) : sok (n + 1) (.tuple xs) := ⟨hl, h⟩
theorem bools_true (xs : List Nat) : bools ((xs.map fun _ => PyData.bool true).map D.d) = some (xs.map fun _ => true) := by
  induction xs with
  | nil => rfl
  | cons x xs ih => simp only [List.map_cons, bools, ih]
theorem v_all {s : Sto} (xs : List Nat) : bAll s [.d (.list (xs.map fun _ => PyData.bool true))] = some (.d (.bool true), s) := by
  unfold bAll qL f1 asL
  simp only [bools_true]
  simp
theorem rng_mem {k n : Nat} (h : k ∈ List.range n) : k < n := List.mem_range.mp h
theorem same_row {F : FA} {xs : List PyData} {s : Sto} {Q : D → Sto → Prop} {l0 : Option D} {d : D} (hd : d = .d (.tuple xs) ∨ d = .d (.list xs)) (hl : xs.length ≤ lim) (h : ∀ x ∈ xs, ∀ s, F s [.d x, .d x] = some (.d (.bool true), s)) (q : Q (.d (.list ((List.range xs.length).map fun _ => .bool true))) s) :
    R (eLc false [2] (iRng1 (aCons (eCall bLen (aCons (eVar 0) aNil)) aNil)) (gName 2) tTrue (eCall F (aCons (eIt (eVar 0) (eVar 2)) (aCons (eIt (eVar 1) (eVar 2)) aNil))) [some d, some d, l0] s) Q := by
  have hl' : xs.length ≤ 1000000 := hl
  refine R_lcm (List.range xs.length) (fun k => .d (.int ((0 : Int) + (k : Nat)))) (fun _ => .bool true) ?_ (fun k hk acc => ?_) (by simpa using hl) q
  · rcases hd with rfl | rfl
    · simp [rngD]
      omega
    · simp [rngD, len_l]
      omega
  · have hk := rng_mem hk
    have hx : xs[k]? = some xs[k] := List.getElem?_eq_getElem hk
    have hh : itF (s ++ [.lst acc]) d (.d (.int (k : Nat))) = some (.d xs[k]) := by
      rcases hd with rfl | rfl
      · exact itF_t (atI_nat hx)
      · exact itF_tl (atI_nat hx)
    simp [wipeN, R_it, hh, h _ (List.getElem_mem hk)]
theorem same_ok : ∀ (n : Nat) (x : PyData) (s : Sto), sok n x → m__law_same n s [.d x, .d x] = some (.d (.bool true), s)
  | 0, _, _, h => h.elim
  | n + 1, x, s, h => by
    apply R.eq
    unfold m__law_same b__law_same
    cases x with
    | tuple xs =>
      obtain ⟨hl, h⟩ := h
      simp [R_fn, TyT.of, Z.isTup, Z.isLst, Z.isBl, Z.isInt, Z.isStr]
      refine same_row (.inl rfl) hl (fun x hx s => same_ok n x s (h x hx)) ?_
      simp [v_all, R_retd]
    | list xs =>
      obtain ⟨hl, h⟩ := h
      simp [R_fn, TyT.of, Z.isTup, Z.isLst, Z.isBl, Z.isInt, Z.isStr, len_l]
      refine same_row (.inr rfl) hl (fun x hx s => same_ok n x s (h x hx)) ?_
      simp [v_all, R_retd]
    | dict kvs => exact h.elim
    | int i => simp [R_fn, TyT.of, Z.isTup, Z.isLst, Z.isBl, Z.isInt, Z.isStr, R_retd]
    | bool i => simp [R_fn, TyT.of, Z.isTup, Z.isLst, Z.isBl, Z.isInt, Z.isStr, R_retd]
    | str i => simp [R_fn, TyT.of, Z.isTup, Z.isLst, Z.isBl, Z.isInt, Z.isStr, R_retd]
    | none => simp [R_fn, TyT.of, Z.isTup, Z.isLst, Z.isBl, Z.isInt, Z.isStr, R_retd]
theorem R_same {n : Nat} {x : PyData} {s : Sto} {Q : D → Sto → Prop} (h : sok n x) (q : Q (.d (.bool true)) s) : R (m__law_same n s [.d x, .d x]) Q := .of (same_ok n x s h) q

theorem data_mapf {α : Type} (f : α → PyData) (l : List α) : data (l.map (D.d ∘ f)) = some (l.map f) := by
  rw [← List.map_map, data_map]
theorem ret_own {s s' : Sto} {j : Nat} {Q : D → Sto → Prop} (h : s.length ≤ j) : R (ret true s (.r j) s') Q ↔ Q (.r j) s' := by
  unfold ret
  simp only [if_neg (show ¬ j < s.length by omega), if_true, R_some]
end N

namespace N
open PySem L2 PyProof.Rows

/-- .. of some -/
def xr : List Nat → Nat
  | [] => 0
  | n :: ns => n ^^^ xr ns
end N

namespace N
open PySem L2 PyProof.Rows

/-- a row of numbers -/
def nt (ns : List Nat) : List PyData := ns.map fun n => .int (n : Nat)
@[simp] theorem nt_len (ns : List Nat) : (nt ns).length = ns.length := by simp [nt]
def ci (n : Nat) : Int := n
end N

namespace N
open PySem L2 PyProof.Rows

def Rm (o : Option (List D × D)) (Q : List D → D → Prop) : Prop := ∃ ys z, o = some (ys, z) ∧ Q ys z
@[simp] theorem Rm_some {ys : List D} {z : D} {Q : List D → D → Prop} : Rm (some (ys, z)) Q ↔ Q ys z := ⟨fun ⟨_, _, h, q⟩ => by cases h; exact q, fun q => ⟨_, _, rfl, q⟩⟩
@[simp] theorem Rm_none {Q : List D → D → Prop} : Rm none Q ↔ False := ⟨fun ⟨_, _, h, _⟩ => (by cases h), False.elim⟩
theorem trim_len {s s' : Sto} (h : s'.length = s.length) : trim s s' = s' := by
  unfold trim
  split
  · rw [← h, List.take_length]
  · rfl
theorem trimE_len {s s' : Sto} {e : Lo} (h : s'.length = s.length) : trimE s e s' = s' := by
  unfold trimE
  split
  · exact trim_len h
  · rfl
@[simp] theorem trimE_last {s : Sto} {c c' : Cell} {e : Lo} : trimE (s ++ [c]) e (s ++ [c']) = s ++ [c'] := trimE_len (by simp)
@[simp] theorem set_last {s : Sto} {c c' : Cell} : (s ++ [c]).set s.length c' = s ++ [c'] := by
  rw [List.set_append_right _ _ (Nat.le_refl _), Nat.sub_self]
  rfl
section
variable {e : Lo} {s : Sto} {Q : D → Sto → Prop}
@[simp] theorem R_meth (f : FM) (ma : ME) (ms : MA) : R (eMeth f ma ms e s) Q ↔ R (ma e s) fun o s1 => match o with
  | .r j => match s1[j]? with
    | some (.lst _) => R (ms e s1) fun ds s2 => match s2[j]? with
      | some (.lst xs) => Rm (f s2 xs ds) fun ys z => Q z (s2.set j (.lst ys))
      | _ => False
    | _ => False
  | _ => False := by
  unfold eMeth
  rcases ma e s with _ | ⟨o, s1⟩
  · simp
  · rcases o with x | j
    · simp
    · simp only [R_some]
      rcases s1[j]? with _ | c
      · simp
      · rcases c with ds | kvs | kvs | kvs | ⟨rl, rh⟩ | td | ⟨iC, ifs⟩ | _
        · rcases h : ms e s1 with _ | ⟨as, s2⟩
          · simp [h]
          · simp only [h, R_some]
            rcases s2[j]? with _ | c
            · simp
            · rcases c with xs | kvs | kvs | kvs | ⟨rl, rh⟩ | td | ⟨iC, ifs⟩ | _
              · simp only []
                rcases h2 : f s2 xs as with _ | ⟨ys, z⟩ <;> simp [h2]
              · simp
              · simp
              · simp
              · simp
              · simp
              · simp
              · simp
        · simp
        · simp
        · simp
        · simp
        · simp
        · simp
        · simp
@[simp] theorem v_app {xs : List D} {d : D} {Qm : List D → D → Prop} : Rm (fApp s xs [d]) Qm ↔ xs.length < lim ∧ Qm (xs ++ [d]) (.d .none) := by
  unfold fApp
  by_cases h : xs.length < lim <;> simp [h]
theorem v_ext {xs ys : List D} {d : D} {Qm : List D → D → Prop} (h : asL s d = some ys) : Rm (fExt s xs [d]) Qm ↔ xs.length + ys.length ≤ lim ∧ Qm (xs ++ ys) (.d .none) := by
  unfold fExt
  by_cases hl : xs.length + ys.length ≤ lim <;> simp [h, hl]
@[simp] theorem v_extL {xs : List D} {ys : List PyData} {Qm : List D → D → Prop} : Rm (fExt s xs [.d (.list ys)]) Qm ↔ xs.length + ys.length ≤ lim ∧ Qm (xs ++ ys.map .d) (.d .none) := by
  rw [v_ext (ys := ys.map .d) rfl, List.length_map]
end
theorem kHas_put {kvs : List (Key × D)} {k k' : Key} {d : D} : kHas (kPut kvs k d) k' = true ↔ k' = k ∨ kHas kvs k' = true := by
  unfold kPut kHas
  split
  · rename_i h
    simp only [List.any_map, List.any_eq_true, Function.comp, decide_eq_true_eq] at h ⊢
    constructor
    · rintro ⟨kv, hm, he⟩
      split at he
      · exact .inr ⟨kv, hm, he⟩
      · exact .inr ⟨kv, hm, he⟩
    · rintro (rfl | ⟨kv, hm, he⟩)
      · obtain ⟨kv, hm, he⟩ := h
        exact ⟨kv, hm, by split <;> exact he⟩
      · exact ⟨kv, hm, by split <;> exact he⟩
  · simp only [List.any_append, List.any_cons, List.any_nil, Bool.or_false, Bool.or_eq_true, decide_eq_true_eq]
    constructor
    · rintro (h | h)
      · exact .inr h
      · exact .inl h.symm
    · rintro (h | h)
      · exact .inr h.symm
      · exact .inl h
theorem kPut_len {kvs : List (Key × D)} {k : Key} {d : D} : (kPut kvs k d).length ≤ kvs.length + 1 := by
  unfold kPut
  split <;> simp
end N

namespace N
open PySem L2 PyProof.Rows

/-- the least that is missing -/
def Mex (ns : List Nat) (k : Nat) : Prop := (∀ i < k, i ∈ ns) ∧ k ∉ ns
theorem Mex.uniq {ns : List Nat} {k k' : Nat} (h : Mex ns k) (h' : Mex ns k') : k = k' := by
  rcases Nat.lt_trichotomy k k' with l | l | l
  · exact (h.2 (h'.1 k l)).elim
  · exact l
  · exact (h'.2 (h.1 k' l)).elim
theorem mem_nt {ns : List Nat} {k : Nat} : PyData.int (k : Nat) ∈ nt ns ↔ k ∈ ns := by
  unfold nt
  rw [List.mem_map]
  constructor
  · rintro ⟨a, h, e⟩
    have : a = k := by simp at e; omega
    exact this ▸ h
  · exact fun h => ⟨k, h, rfl⟩
theorem pks_nt (ns : List Nat) : pks (nt ns) = true := pks_iff.mpr (by simp [nt, pk])
theorem v_inNt {neg : Bool} {ns : List Nat} {k : Nat} {s : Sto} : cIn neg s (.d (.int (k : Nat))) (.d (.tuple (nt ns))) = some (if neg then !decide (k ∈ ns) else decide (k ∈ ns)) := by
  rw [v_inT rfl (pks_nt ns) rfl (by simp [PyData.depth])]
  simp only [mem_nt]
end N

namespace N
open PySem L2 PyProof.Rows

def so (l : List Nat) : List Nat := l.mergeSort fun a b => decide (a ≤ b)
theorem so_perm (l : List Nat) : (so l).Perm l := List.mergeSort_perm _ _
theorem nt_eq (l : List Nat) : nt l = l.map fun n => PyData.int ((fun n : Nat => (n : Int)) n) := rfl
theorem srt_nt (l : List Nat) : Z.srt (nt l) = nt (so l) := by
  unfold Z.srt so
  rw [nt_eq, nt_eq]
  refine (List.map_mergeSort (r := fun a b : Nat => decide (a ≤ b)) (s := PySem.W.dataLe false id) (f := fun n => PyData.int ((fun n : Nat => (n : Int)) n)) (l := l) fun a _ b _ => ?_).symm
  have := congrFun (congrFun (PySem.W.dataLe_int (β := Nat) fun n => (n : Int)) a) b
  rw [show PySem.W.dataLe false id (PyData.int ((fun n : Nat => (n : Int)) a)) (PyData.int ((fun n : Nat => (n : Int)) b)) = PySem.W.dataLe false (fun b : Nat => PyData.int ((fun n : Nat => (n : Int)) b)) a b from rfl, this]
  simp
theorem srtOk_nt (l : List Nat) : SrtOk (nt l) := by
  rw [nt_eq]
  refine ⟨PySem.W.AllAlike.of fun a b => by simp [PySem.W.alike], .inl (PySem.W.Sortable.others fun b => ⟨by simp, by simp⟩), fun d hd => ?_⟩
  obtain ⟨a, _, rfl⟩ := List.mem_map.mp hd
  simp [PyData.depth]
theorem depth_nt (l : List Nat) : (PyData.tuple (nt l)).depth ≤ 1 := by
  have : PyData.depthAll (nt l) = 0 := by
    induction l with
    | nil => rfl
    | cons a l ih => rw [nt, List.map_cons, PyData.depthAll]; rw [nt] at ih; rw [ih]; simp [PyData.depth]
  simp [PyData.depth, this]
theorem R_sortI {l : List Nat} {s : Sto} {Q : D → Sto → Prop} (q : Q (.d (.list (nt (so l)))) s) : R (bSorted false s [.d (.list (nt l))]) Q := by
  unfold bSorted asL
  simp only [data_map, if_pos (srtOk_nt l), R_mkF, srt_nt]
  exact Rc_some.mpr q
/-- the heaps that stand -/
def pl (l : List Nat) : List Nat := so (l.filter fun n => decide (0 < n))
theorem sum_perm {l m : List Nat} (h : l.Perm m) : l.sum = m.sum := h.sum_nat
theorem sum_filter (l : List Nat) : (l.filter fun n => decide (0 < n)).sum = l.sum := by
  induction l with
  | nil => rfl
  | cons a l ih =>
    rw [List.filter_cons]
    by_cases h : 0 < a
    · simp [h, ih]
    · simp [h, ih]; omega
theorem pl_sum (l : List Nat) : (pl l).sum = l.sum := by rw [pl, sum_perm (so_perm _), sum_filter]
theorem pl_mem {l : List Nat} {n : Nat} : n ∈ pl l ↔ n ∈ l ∧ 0 < n := by
  rw [pl, (so_perm _).mem_iff, List.mem_filter, decide_eq_true_eq]
theorem so_sorted (l : List Nat) : (so l).Pairwise (· ≤ ·) := by
  have := List.pairwise_mergeSort (le := fun a b : Nat => decide (a ≤ b)) (fun a b c h1 h2 => by simp at *; omega) (fun a b => by simp; omega) l
  simpa [so] using this
end N

namespace N
open PySem L2 PyProof.Rows

noncomputable def b__law_left : MS := (sSeq (sSet 2 (eLst true aNil))
  (sSeq (sFor (iRng2 (aCons (eC (.int 1)) (aCons (eBin (oAdd false) (eCall bMin2 (aCons (eVar 1) (aCons (eCall bLen (aCons (eVar 0) aNil)) aNil))) (eC (.int 1))) aNil))) (gName 3) (sSeq (sAsg (gTup (gsLenOk 2 (gsCons (gName 4) (gsCons (gName 5) gsNil)))) (eTup (aCons (eIt (eVar 0) (eBin oSub (eVar 3) (eC (.int 1)))) (aCons (eBin oSub (eVar 1) (eVar 3)) aNil))))
  (sSeq (sIf (tAnd (tCmp (cIn false) (eVar 4) (eTup (aCons (eC (.int 1)) (aCons (eC (.int 3)) (aCons (eC (.int 5)) (aCons (eC (.int 7)) aNil)))))) (tCmp cEq (eVar 5) (eC (.int 0)))) (sSeq (sExpr (eMeth fApp (eVar 2) (aCons (eTup aNil) aNil)))
  sNil) sNil)
  (sSeq (sIf (tAnd (tCmp (cIn false) (eVar 4) (eTup (aCons (eC (.int 2)) (aCons (eC (.int 3)) (aCons (eC (.int 6)) (aCons (eC (.int 7)) aNil)))))) (tCmp cGt (eVar 5) (eC (.int 0)))) (sSeq (sExpr (eMeth fApp (eVar 2) (aCons (eTup (aCons (eVar 5) aNil)) aNil)))
  sNil) sNil)
  (sSeq (sIf (tCmp cGt (eVar 4) (eC (.int 3))) (sSeq (sExpr (eMeth fExt (eVar 2) (aCons (eLc false [6] (iRng2 (aCons (eC (.int 1)) (aCons (eVar 5) aNil))) (gName 6) (tCmp cLe (eVar 6) (eBin oSub (eVar 5) (eVar 6))) (eTup (aCons (eVar 6) (aCons (eBin oSub (eVar 5) (eVar 6)) aNil)))) aNil)))
  sNil) sNil)
  sNil)))) [3, 4, 5])
  (sSeq (sRet (eSrtSet false (eVar 2)))
  sNil)))
noncomputable def m__law_left : FA := fnR 2 7 false b__law_left
section
variable (rst : Nat → List (List Nat)) (losing : Bool)
def opts (hs : List Nat) : List (List Nat) := (List.range hs.length).flatMap fun i => (rst (hs.getD i 0)).map fun r => pl (hs.take i ++ r ++ hs.drop (i + 1))
def secF : Nat → List Nat → Bool
  | 0, _ => false
  | f + 1, hs => if opts rst hs = [] then !losing else !((opts rst hs).any (secF f))
def sec (hs : List Nat) : Bool := secF rst losing (hs.sum + 1) hs
end
section
variable {rst : Nat → List (List Nat)} {losing : Bool}
theorem sum_split {hs : List Nat} {i : Nat} (h : i < hs.length) : hs.sum = (hs.take i).sum + hs.getD i 0 + (hs.drop (i + 1)).sum := by
  have e : hs = hs.take i ++ hs[i] :: hs.drop (i + 1) := by rw [← List.drop_eq_getElem_cons h, List.take_append_drop]
  have := congrArg List.sum e
  rw [this, List.sum_append, List.sum_cons, List.getD_eq_getElem?_getD, List.getElem?_eq_getElem h]
  simp only [Option.getD_some]
  omega
theorem mem_opts {hs o : List Nat} : o ∈ opts rst hs ↔ ∃ i, i < hs.length ∧ ∃ r ∈ rst (hs.getD i 0), o = pl (hs.take i ++ r ++ hs.drop (i + 1)) := by
  unfold opts
  simp only [List.mem_flatMap, List.mem_range, List.mem_map]
  constructor
  · rintro ⟨i, h1, r, h2, rfl⟩; exact ⟨i, h1, r, h2, rfl⟩
  · rintro ⟨i, h1, r, h2, rfl⟩; exact ⟨i, h1, r, h2, rfl⟩
theorem getD_le {hs : List Nat} {i N : Nat} (hS : ∀ a ∈ hs, a ≤ N) (h : i < hs.length) : hs.getD i 0 ≤ N := by
  rw [List.getD_eq_getElem?_getD, List.getElem?_eq_getElem h]
  exact hS _ (List.getElem_mem h)
theorem mem_le_sum {l : List Nat} {a : Nat} (h : a ∈ l) : a ≤ l.sum := by
  induction l with
  | nil => cases h
  | cons b l ih =>
    rw [List.sum_cons]
    rcases List.mem_cons.mp h with rfl | h
    · omega
    · have := ih h; omega
theorem opts_le {N : Nat} (hr : ∀ n ≤ N, ∀ r ∈ rst n, r.sum < n) {hs o : List Nat} (hS : ∀ a ∈ hs, a ≤ N) (h : o ∈ opts rst hs) : ∀ a ∈ o, a ≤ N := by
  obtain ⟨i, h1, r, h2, rfl⟩ := mem_opts.mp h
  intro a ha
  have := hr _ (getD_le hS h1) r h2
  have hN := getD_le hS h1
  rcases List.mem_append.mp (pl_mem.mp ha).1 with h3 | h3
  · rcases List.mem_append.mp h3 with h3 | h3
    · exact hS a (List.mem_of_mem_take h3)
    · have := mem_le_sum h3; omega
  · exact hS a (List.mem_of_mem_drop h3)
theorem opts_sum {N : Nat} (hr : ∀ n ≤ N, ∀ r ∈ rst n, r.sum < n) {hs o : List Nat} (hS : ∀ a ∈ hs, a ≤ N) (h : o ∈ opts rst hs) : o.sum < hs.sum := by
  obtain ⟨i, h1, r, h2, rfl⟩ := mem_opts.mp h
  have e := sum_split h1
  have := hr _ (getD_le hS h1) r h2
  rw [pl_sum, List.sum_append, List.sum_append]
  omega
theorem secF_two {N : Nat} (hr : ∀ n ≤ N, ∀ r ∈ rst n, r.sum < n) : ∀ (f g : Nat) (hs : List Nat), hs.sum < f → hs.sum < g → (∀ a ∈ hs, a ≤ N) → secF rst losing f hs = secF rst losing g hs
  | 0, _, hs, h, _, _ => by omega
  | _ + 1, 0, hs, _, h, _ => by omega
  | f + 1, g + 1, hs, h, h', hS => by
    rw [secF, secF]
    split
    · rfl
    · congr 1
      rw [Bool.eq_iff_iff, List.any_eq_true, List.any_eq_true]
      have e o (ho : o ∈ opts rst hs) : secF rst losing f o = secF rst losing g o := by
        have := opts_sum hr hS ho
        exact secF_two hr f g o (by omega) (by omega) (opts_le hr hS ho)
      constructor
      · rintro ⟨o, h1, h2⟩; exact ⟨o, h1, by rwa [← e o h1]⟩
      · rintro ⟨o, h1, h2⟩; exact ⟨o, h1, by rwa [e o h1]⟩
theorem secF_enough {N : Nat} (hr : ∀ n ≤ N, ∀ r ∈ rst n, r.sum < n) (f : Nat) (hs : List Nat) (h : hs.sum < f) (hS : ∀ a ∈ hs, a ≤ N) : secF rst losing f hs = sec rst losing hs := secF_two hr f _ hs h (by omega) hS
theorem sec_eq {N : Nat} (hr : ∀ n ≤ N, ∀ r ∈ rst n, r.sum < n) {hs : List Nat} (hS : ∀ a ∈ hs, a ≤ N) : sec rst losing hs = if opts rst hs = [] then !losing else !((opts rst hs).any (sec rst losing)) := by
  rw [show sec rst losing hs = secF rst losing (hs.sum + 1) hs from rfl]
  rw [secF]
  split
  · rfl
  · congr 1
    rw [Bool.eq_iff_iff, List.any_eq_true, List.any_eq_true]
    have h o (ho : o ∈ opts rst hs) : secF rst losing hs.sum o = sec rst losing o := by
      have := opts_sum hr hS ho
      exact secF_enough hr _ _ this (opts_le hr hS ho)
    constructor
    · rintro ⟨o, h1, h2⟩; exact ⟨o, h1, by rwa [← h o h1]⟩
    · rintro ⟨o, h1, h2⟩; exact ⟨o, h1, by rwa [h o h1]⟩
end
/-- rows that ascend from lo, of a sum of n at most -/
def rowsOf : Nat → Nat → Nat → List (List Nat)
  | 0, _, _ => [[]]
  | f + 1, lo, n => [] :: (List.range (n + 1)).flatMap fun a => if lo ≤ a ∧ 0 < a then (rowsOf f a (n - a)).map (a :: ·) else []
theorem rowsOf_mem : ∀ {l : List Nat} {f lo n : Nat}, l.Pairwise (· ≤ ·) → (∀ a ∈ l, lo ≤ a ∧ 0 < a) → l.sum ≤ n → l.length ≤ f → l ∈ rowsOf f lo n
  | [], 0, _, _, _, _, _, _ => by simp [rowsOf]
  | [], f + 1, _, _, _, _, _, _ => by simp [rowsOf]
  | a :: l, f + 1, lo, n, hp, hl, hs, hf => by
    rw [rowsOf, List.mem_cons]
    refine .inr (List.mem_flatMap.mpr ⟨a, ?_, ?_⟩)
    · rw [List.sum_cons] at hs
      rw [List.mem_range]; omega
    · rw [if_pos (hl a List.mem_cons_self)]
      rw [List.pairwise_cons] at hp
      rw [List.sum_cons] at hs
      refine List.mem_map.mpr ⟨l, rowsOf_mem hp.2 (fun b hb => ⟨hp.1 b hb, (hl b (List.mem_cons_of_mem _ hb)).2⟩) (by omega) (by simpa using hf), rfl⟩
theorem sum_len : ∀ {l : List Nat}, (∀ a ∈ l, 0 < a) → l.length ≤ l.sum
  | [], _ => by simp
  | a :: l, h => by
    have := sum_len (l := l) fun b hb => h b (List.mem_cons_of_mem _ hb)
    have := h a List.mem_cons_self
    simp; omega
/-- how many they are -/
def cntOf : Nat → Nat → Nat → Nat
  | 0, _, _ => 1
  | f + 1, lo, n => 1 + ((List.range (n + 1)).map fun a => if lo ≤ a ∧ 0 < a then cntOf f a (n - a) else 0).sum
theorem cntOf_len : ∀ (f lo n : Nat), (rowsOf f lo n).length = cntOf f lo n
  | 0, _, _ => rfl
  | f + 1, lo, n => by
    rw [rowsOf, cntOf, List.length_cons, List.length_flatMap, Nat.add_comm]
    congr 2
    refine List.map_congr_left fun a _ => ?_
    split
    · rw [List.length_map, cntOf_len f]
    · rfl
theorem nodup_le {α : Type} [DecidableEq α] : ∀ {l m : List α}, l.Nodup → (∀ x ∈ l, x ∈ m) → l.length ≤ m.length
  | [], _, _, _ => by simp
  | a :: l, m, hn, hs => by
    rw [List.nodup_cons] at hn
    have h1 := hs a List.mem_cons_self
    have := nodup_le (l := l) (m := m.erase a) hn.2 fun x hx => (List.mem_erase_of_ne (fun e => hn.1 (by rwa [e] at hx))).mpr (hs x (List.mem_cons_of_mem _ hx))
    rw [List.length_erase_of_mem h1] at this
    have := List.length_pos_of_mem h1
    simp; omega
theorem few21 : cntOf 21 0 21 ≤ 5000 := by decide +kernel
end N

namespace N
open PySem L2 PyProof.Rows

theorem nt_inj {a b : List Nat} (h : nt a = nt b) : a = b := by
  have := congrArg (List.map fun x => match x with | PyData.int i => i.toNat | _ => 0) h
  simpa [nt, Function.comp_def] using this
theorem key_nt (l : List Nat) : isKey (.tuple (nt l)) = true := by
  have := key_ints (l.map ci)
  rwa [List.map_map] at this
section
variable (rst : Nat → List (List Nat)) (losing : Bool)
def ent (h : List Nat) : PyData × D := (.tuple (nt h), .d (.bool (sec rst losing h)))
end
structure Gd (N S : Nat) (h : List Nat) : Prop where
  so : h.Pairwise (· ≤ ·)
  po : ∀ a ∈ h, 0 < a
  su : h.sum ≤ S
  le : ∀ a ∈ h, a ≤ N
structure MOK (N S : Nat) (M : List (List Nat)) : Prop where
  nd : M.Nodup
  gd : ∀ h ∈ M, Gd N S h
theorem MOK.few {N : Nat} {M : List (List Nat)} (h : MOK N 21 M) : M.length ≤ 5000 := by
  have := nodup_le (m := rowsOf 21 0 21) h.nd fun x hx => by
    have g := h.gd x hx
    exact rowsOf_mem g.so (fun a ha => ⟨Nat.zero_le _, g.po a ha⟩) g.su (Nat.le_trans (sum_len g.po) g.su)
  rw [cntOf_len] at this
  exact Nat.le_trans this few21
section
variable {rst : Nat → List (List Nat)} {losing : Bool} {c : D} {N S : Nat}
theorem MOK.put {M : List (List Nat)} {h : List Nat} (m : MOK N S M) (g : Gd N S h) : MOK N S (if h ∈ M then M else M ++ [h]) := by
  split
  · exact m
  · rename_i hn
    refine ⟨?_, fun x hx => ?_⟩
    · rw [List.nodup_append]
      exact ⟨m.nd, by simp, fun a ha b hb => by simp at hb; subst hb; exact fun e => hn (e ▸ ha)⟩
    · rcases List.mem_append.mp hx with h' | h'
      · exact m.gd x h'
      · simp at h'; exact h' ▸ g
end
end N

namespace N
open PySem L2 PyProof.Rows

section
variable {rst : Nat → List (List Nat)} {losing : Bool} {c : D} {N S : Nat}
theorem cut_lo {α : Type} {xs : List α} {i : Nat} (h : i ≤ xs.length) : cutD xs none (some (i : Int)) = xs.take i := by
  unfold cutD
  rw [HT.sIx_none, HT.sIx_nat, Nat.min_eq_left h]
  simp
theorem cut_hi {α : Type} {xs : List α} {i : Nat} (h : i ≤ xs.length) : cutD xs (some (i : Int)) none = xs.drop i := by
  unfold cutD
  rw [HT.sIx_none, HT.sIx_nat, Nat.min_eq_left h]
  exact List.take_of_length_le (by simp)
/-- a row of a tuple -/
def ut : PyData → List Nat
  | .tuple xs => xs.map fun x => match x with
    | .int i => i.toNat
    | _ => 0
  | _ => []
theorem ut_nt (l : List Nat) : ut (.tuple (nt l)) = l := by simp [ut, nt, Function.comp_def]
theorem alike_nt (a b : List Nat) : PySem.W.alike (.tuple (nt a)) (.tuple (nt b)) = true := by
  have := PySem.W.alike_ints (a.map ci) (b.map ci)
  rw [List.map_map, List.map_map] at this
  rw [PySem.W.alike]
  exact this
theorem bools_mapf {α : Type} (f : α → Bool) (l : List α) : bools (l.map (D.d ∘ fun x => PyData.bool (f x))) = some (l.map f) := by
  induction l with
  | nil => rfl
  | cons x l ih => simp only [List.map_cons, Function.comp_apply, bools, ih]
theorem v_any {α : Type} {s : Sto} (f : α → Bool) (l : List α) : bAny s [.d (.list (l.map fun x => PyData.bool (f x)))] = some (.d (.bool (l.any f)), s) := by
  unfold bAny qL f1 asL
  simp only [List.map_map, bools_mapf]
  simp
def plo (hs : List Nat) (i : Nat) (r : List Nat) : List Nat := pl (hs.take i ++ r ++ hs.drop (i + 1))
def NewOf (rst : Nat → List (List Nat)) (hs : List Nat) (i : Nat) (o : List Nat) : Prop := ∃ i', i' < i ∧ ∃ r ∈ rst (hs.getD i' 0), o = plo hs i' r
theorem newOf_succ {hs o : List Nat} {i : Nat} : NewOf rst hs (i + 1) o ↔ NewOf rst hs i o ∨ ∃ r ∈ rst (hs.getD i 0), o = plo hs i r := by
  constructor
  · rintro ⟨i', h1, h2⟩
    rcases Nat.lt_or_ge i' i with h | h
    · exact .inl ⟨i', h, h2⟩
    · exact .inr (by rwa [show i' = i by omega] at h2)
  · rintro (⟨i', h1, h2⟩ | h)
    · exact ⟨i', by omega, h2⟩
    · exact ⟨i, by omega, h⟩
theorem newOf_all {hs o : List Nat} : NewOf rst hs hs.length o ↔ o ∈ opts rst hs := by
  rw [mem_opts]
  rfl
end
end N

namespace N
open PySem L2 PyProof.Rows

end N

namespace N
open PySem L2 PyProof.Rows

/-- cells that refer to nothing -/
def Flat (g : Sto) : Prop := ∀ c ∈ g, ∀ n, c.below n
theorem TS.len {rest s : Sto} (h : TS rest s) : s.length = 2 + rest.length := by
  obtain ⟨xs, p, q, r, _, rfl⟩ := h
  simp [tp]; omega
theorem TS.wf {rest s : Sto} (h : TS rest s) (f : Flat rest) : Wf s := by
  have hl := h.len
  obtain ⟨xs, p, q, r, _, rfl⟩ := h
  intro c hc
  unfold tp at hc
  rcases List.mem_cons.mp hc with rfl | hc
  · intro j hj; simp at hj
  · rcases List.mem_cons.mp hc with rfl | hc
    · intro j hj
      simp at hj
      omega
    · exact f c hc _
theorem TS.app {rest s : Sto} (h : TS rest s) (g : Sto) : TS (rest ++ g) (s ++ g) := by
  obtain ⟨xs, p, q, r, hp, rfl⟩ := h
  exact ⟨xs, p, q, r, hp, rfl⟩
theorem TS.unapp {rest g s : Sto} (h : TS (rest ++ g) s) : ∃ s', s = s' ++ g ∧ TS rest s' := by
  obtain ⟨xs, p, q, r, hp, rfl⟩ := h
  exact ⟨tp xs p q r rest, rfl, xs, p, q, r, hp, rfl⟩
theorem TS.get {rest s : Sto} (h : TS rest s) (j : Nat) : s[j + 2]? = rest[j]? := by
  obtain ⟨xs, p, q, r, hp, rfl⟩ := h
  rfl
theorem TS.put {rest s : Sto} (h : TS rest s) (j : Nat) (c : Cell) : TS (rest.set j c) (s.set (j + 2) c) := by
  obtain ⟨xs, p, q, r, hp, rfl⟩ := h
  exact ⟨xs, p, q, r, hp, rfl⟩
end N

namespace N
open PySem L2 PyProof.Rows

def resC (d rest : Nat) : List (List Nat) := (if rest = 0 ∧ d % 2 = 1 then [[]] else []) ++ ((if 1 ≤ rest ∧ d / 2 % 2 = 1 then [[rest]] else []) ++ (if 2 ≤ rest ∧ d / 4 = 1 then (List.range (rest / 2)).map fun a => [a + 1, rest - (a + 1)] else []))
def rstC (c : List Nat) (n : Nat) : List (List Nat) := (List.range c.length).flatMap fun j => if j < n then resC (c.getD j 0) (n - j - 1) else []
theorem resC_sum {d rest : Nat} {r : List Nat} (h : r ∈ resC d rest) : r.sum = rest ∧ r.length ≤ 2 ∧ ∀ a ∈ r, 0 < a := by
  unfold resC at h
  rcases List.mem_append.mp h with h | h
  · split at h
    · rename_i e
      simp at h; subst h
      exact ⟨by simp; omega, by simp, by simp⟩
    · simp at h
  · rcases List.mem_append.mp h with h | h
    · split at h
      · rename_i e
        simp at h; subst h
        exact ⟨by simp, by simp, by simp; omega⟩
      · simp at h
    · split at h
      · obtain ⟨a, ha, rfl⟩ := List.mem_map.mp h
        rw [List.mem_range] at ha
        exact ⟨by simp; omega, by simp, by simp; omega⟩
      · simp at h
theorem mem_rstC {c : List Nat} {n : Nat} {r : List Nat} : r ∈ rstC c n ↔ ∃ j, j < c.length ∧ j < n ∧ r ∈ resC (c.getD j 0) (n - j - 1) := by
  unfold rstC
  simp only [List.mem_flatMap, List.mem_range]
  constructor
  · rintro ⟨j, h1, h2⟩
    split at h2
    · exact ⟨j, h1, by assumption, h2⟩
    · cases h2
  · rintro ⟨j, h1, h2, h3⟩
    exact ⟨j, h1, by rw [if_pos h2]; exact h3⟩
theorem rstC_sum {c : List Nat} {n : Nat} {r : List Nat} (h : r ∈ rstC c n) : r.sum < n ∧ r.length ≤ 2 ∧ (∀ a ∈ r, 0 < a) ∧ ∀ a ∈ r, a < n := by
  obtain ⟨j, h1, h2, h3⟩ := mem_rstC.mp h
  obtain ⟨e1, e2, e3⟩ := resC_sum h3
  refine ⟨by omega, e2, e3, fun a ha => ?_⟩
  have := mem_le_sum ha
  omega
theorem Mex.congr {l m : List Nat} {k : Nat} (h : Mex l k) (e : ∀ x, x ∈ l ↔ x ∈ m) : Mex m k := ⟨fun i hi => (e i).mp (h.1 i hi), fun hm => h.2 ((e k).mpr hm)⟩
end N

namespace N
open PySem L2 PyProof.Rows

/-- a tuple of numbers -/
def tup (r : List Nat) : PyData := .tuple (nt r)
theorem tup_inj {a b : List Nat} (h : tup a = tup b) : a = b := by
  unfold tup at h
  exact nt_inj (PyData.tuple.inj h)
theorem ut_tup (r : List Nat) : ut (tup r) = r := ut_nt r
/-- what may be left, ascending -/
noncomputable def lcD (c : List Nat) (n : Nat) : List (List Nat) := (Z.srt (Z.dd ((rstC c n).map tup))).map ut
theorem mem_srtdd {L : List (List Nat)} {x : PyData} : x ∈ Z.srt (Z.dd (L.map tup)) ↔ ∃ r ∈ L, x = tup r := by
  rw [(Z.srt_perm _).mem_iff, Z.dd_mem, List.mem_map]
  constructor
  · rintro ⟨r, h, rfl⟩; exact ⟨r, h, rfl⟩
  · rintro ⟨r, h, rfl⟩; exact ⟨r, h, rfl⟩
theorem mem_lcD {c : List Nat} {n : Nat} {r : List Nat} : r ∈ lcD c n ↔ r ∈ rstC c n := by
  unfold lcD
  rw [List.mem_map]
  constructor
  · rintro ⟨x, h, rfl⟩
    obtain ⟨r, hr, rfl⟩ := mem_srtdd.mp h
    rwa [ut_tup]
  · intro h
    exact ⟨tup r, mem_srtdd.mpr ⟨r, h, rfl⟩, ut_tup r⟩
theorem v_min2 {s : Sto} (i j : Int) : bMin2 s [.d (.int i), .d (.int j)] = some (.d (.int (mn2 i j)), s) := rfl
theorem v_max2 {s : Sto} (i j : Int) : bMax2 s [.d (.int i), .d (.int j)] = some (.d (.int (mx2 i j)), s) := rfl
end N

namespace N
open PySem L2 PyProof.Rows

def DT (M : List (List Nat)) : List (PyData × D) := M.map fun r => (tup r, .d (.bool true))
theorem has_DT (M : List (List Nat)) (r : List Nat) : dHas (DT M) (tup r) = decide (r ∈ M) := by
  rw [Bool.eq_iff_iff, decide_eq_true_eq]
  unfold dHas DT
  simp only [List.any_map, List.any_eq_true, Function.comp, decide_eq_true_eq]
  exact ⟨fun ⟨x, h1, h2⟩ => tup_inj h2 ▸ h1, fun h1 => ⟨r, h1, rfl⟩⟩
theorem put_DT (M : List (List Nat)) (r : List Nat) : dPut (DT M) (tup r) (.d (.bool true)) = DT (if r ∈ M then M else M ++ [r]) := by
  unfold dPut
  rw [has_DT]
  by_cases hm : r ∈ M
  · rw [if_pos hm, decide_eq_true hm, if_pos rfl]
    unfold DT
    rw [List.map_map]
    refine List.map_congr_left fun x hx => ?_
    simp only [Function.comp]
    split <;> rfl
  · rw [if_neg hm, decide_eq_false hm, if_neg (by simp)]
    unfold DT
    rw [List.map_append]
    rfl
/-- a dict behind s, its keys those of T -/
def DS (s : Sto) (T : List (List Nat)) (s' : Sto) : Prop := ∃ M : List (List Nat), M.Nodup ∧ (∀ r, r ∈ M ↔ r ∈ T) ∧ s' = s ++ [.dic (DT M)]
theorem DS.len {s s' : Sto} {T : List (List Nat)} (h : DS s T s') : s'.length = s.length + 1 := by
  obtain ⟨M, _, _, rfl⟩ := h
  simp
theorem DS.put {s s' : Sto} {T : List (List Nat)} (h : DS s T s') (hT : T.length ≤ 10000) (r : List Nat) : Rc (putF s' (.r s.length) (.d (tup r)) (.d (.bool true))) fun s4 => DS s (T ++ [r]) s4 := by
  obtain ⟨M, nd, hm, rfl⟩ := h
  have hl : M.length ≤ T.length := nodup_le nd fun x hx => (hm x).mp hx
  have hp := putF_k (s := s ++ [.dic (DT M)]) (j := s.length) (kvs := DT M) (xs := nt r) (d := .d (.bool true)) (by simp) (key_nt r) (by simp [DT, lim]; omega)
  rw [show PyData.tuple (nt r) = tup r from rfl, put_DT, set_last] at hp
  rw [hp, Rc_some]
  refine ⟨_, ?_, fun x => ?_, rfl⟩
  · split
    · exact nd
    · rename_i hn
      rw [List.nodup_append]
      exact ⟨nd, by simp, fun a ha b hb => by simp at hb; subst hb; exact fun e => hn (e ▸ ha)⟩
  · split
    · rename_i hin
      rw [List.mem_append, ← hm, List.mem_singleton]
      exact ⟨.inl, fun h => h.elim id fun e => e ▸ hin⟩
    · rw [List.mem_append, List.mem_append, hm]
theorem srtOk_tup (M : List (List Nat)) : SrtOk (M.map tup) := by
  refine ⟨PySem.W.AllAlike.of fun a b => alike_nt a b, .inr fun d hd => ?_, fun d hd => ?_⟩
  · obtain ⟨a, _, rfl⟩ := List.mem_map.mp hd
    exact ⟨_, rfl⟩
  · obtain ⟨a, _, rfl⟩ := List.mem_map.mp hd
    have := depth_nt a
    exact Nat.le_trans this (by decide)
theorem dd_nodup : ∀ l : List PyData, (Z.dd l).Nodup
  | [] => List.nodup_nil
  | a :: l => by
    unfold Z.dd
    split
    · exact dd_nodup l
    · rename_i h
      exact List.nodup_cons.mpr ⟨fun hm => h (Z.dd_mem.mp hm), dd_nodup l⟩
end N

namespace N
open PySem L2 PyProof.Rows

theorem Mex.le {l : List Nat} {k : Nat} (h : Mex l k) : k ≤ l.length := by
  have := nodup_le (l := List.range k) (m := l) List.nodup_range fun x hx => h.1 x (List.mem_range.mp hx)
  simpa using this
/-- numbers of a row in the store -/
def cl (ns : List Nat) : Cell := .lst ((nt ns).map .d)
end N

namespace N
open PySem L2 PyProof.Rows

/-- what the walk over the heaps has met -/
structure FL (c hs : List Nat) (i : Nat) (met fine : Bool) : Prop where
  ok : fine = true → (∀ o, NewOf (rstC c) hs i o → sec (rstC c) true o = false) ∧ (met = true ↔ ∃ o, NewOf (rstC c) hs i o)
  no : fine = false → ∃ o ∈ opts (rstC c) hs, sec (rstC c) true o = true
theorem FL.val {c hs : List Nat} {met fine : Bool} (h : FL c hs hs.length met fine) : (met && fine) = sec (rstC c) true hs := by
  rw [sec_eq (rst := rstC c) (losing := true) (N := hs.sum) (fun n _ r hr => (rstC_sum hr).1) fun a ha => mem_le_sum ha]
  cases fine with
  | false =>
    obtain ⟨o, h1, h2⟩ := h.no rfl
    rw [if_neg (List.ne_nil_of_mem h1), Bool.and_false]
    symm
    rw [Bool.not_eq_false']
    exact List.any_eq_true.mpr ⟨o, h1, h2⟩
  | true =>
    obtain ⟨h1, h2⟩ := h.ok rfl
    rw [Bool.and_true]
    by_cases e : opts (rstC c) hs = []
    · rw [if_pos e]
      cases met with
      | false => rfl
      | true =>
        obtain ⟨o, ho⟩ := h2.mp rfl
        rw [newOf_all, e] at ho
        cases ho
    · rw [if_neg e]
      obtain ⟨o, ho⟩ := List.exists_mem_of_ne_nil _ e
      rw [h2.mpr ⟨o, newOf_all.mpr ho⟩]
      symm
      rw [Bool.not_eq_true', Bool.eq_false_iff]
      intro ha
      obtain ⟨o, h3, h4⟩ := List.any_eq_true.mp ha
      rw [h1 o (newOf_all.mpr h3)] at h4
      cases h4
theorem FL.skip {c hs : List Nat} {i : Nat} {met fine : Bool} (h : FL c hs i met fine) (e : fine = true → ∀ o, NewOf (rstC c) hs (i + 1) o ↔ NewOf (rstC c) hs i o) : FL c hs (i + 1) met fine := by
  refine ⟨fun hf => ?_, h.no⟩
  obtain ⟨h1, h2⟩ := h.ok hf
  exact ⟨fun o ho => h1 o ((e hf o).mp ho), h2.trans ⟨fun ⟨o, ho⟩ => ⟨o, (e hf o).mpr ho⟩, fun ⟨o, ho⟩ => ⟨o, (e hf o).mp ho⟩⟩⟩
theorem FL.stop {c hs : List Nat} {i : Nat} {met : Bool} {o : List Nat} (ho : o ∈ opts (rstC c) hs) (hs' : sec (rstC c) true o = true) : FL c hs i met false := ⟨fun h => (by cases h), fun _ => ⟨o, ho, hs'⟩⟩
theorem FL.go {c hs : List Nat} {i : Nat} {met : Bool} (h : FL c hs i met true) (hr : ∀ r ∈ lcD c (hs.getD i 0), sec (rstC c) true (plo hs i r) = false) : FL c hs (i + 1) (met || decide (0 < (lcD c (hs.getD i 0)).length)) true := by
  refine ⟨fun _ => ?_, fun h => (by cases h)⟩
  obtain ⟨h1, h2⟩ := h.ok rfl
  refine ⟨fun o ho => ?_, ?_⟩
  · rcases newOf_succ.mp ho with h | ⟨r, h, rfl⟩
    · exact h1 o h
    · exact hr r (mem_lcD.mpr h)
  · rw [Bool.or_eq_true, h2, decide_eq_true_eq]
    constructor
    · rintro (⟨o, ho⟩ | hp)
      · exact ⟨o, newOf_succ.mpr (.inl ho)⟩
      · obtain ⟨r, hr2⟩ := List.exists_mem_of_length_pos hp
        exact ⟨_, newOf_succ.mpr (.inr ⟨r, mem_lcD.mp hr2, rfl⟩)⟩
    · rintro ⟨o, ho⟩
      rcases newOf_succ.mp ho with h | ⟨r, h, rfl⟩
      · exact .inl ⟨o, h⟩
      · exact .inr (List.length_pos_of_mem (mem_lcD.mpr h))
end N

namespace N
open PySem L2 PyProof.Rows

end N

namespace N
open PySem L2 PyProof.Rows

theorem v_addLL {xs ys : List PyData} {s : Sto} {Q : D → Sto → Prop} : R (oAdd false s (.d (.list xs)) (.d (.list ys))) Q ↔ xs.length + ys.length ≤ lim ∧ Q (.d (.list (xs ++ ys))) s := by
  unfold oAdd asL
  simp only [List.length_map]
  by_cases h : xs.length + ys.length ≤ lim
  · simp only [h, true_and, if_true]
    rw [← List.map_append, R_mkF, data_map, Rc_some]
  · simp [h]
end N

namespace N
open PySem L2 PyProof.Rows

end N

namespace N
open PySem L2 PyProof.Rows

end N

namespace N
open PySem L2 PyProof.Rows

section
variable {e : Lo} {s : Sto} {Q : D → Sto → Prop} {Qt : Bool → Sto → Prop}
@[simp] theorem R_chK (f g : Int → Int → Bool) (ma mb mc : ME) : R (chK f g ma mb mc e s) Qt ↔ R (ma e s) fun a s1 => match a with
  | .d (.int i) => R (mb e s1) fun b s2 => match b with
    | .d (.int j) => (f i j = true → R (mc e s2) fun c s3 => match c with
        | .d (.int k) => Qt (g j k) s3
        | _ => False) ∧ (f i j = false → Qt false s2)
    | _ => False
  | _ => False := by
  unfold chK
  rcases ma e s with _ | ⟨a, s1⟩
  · simp
  · rcases a with x | j
    · cases x <;> simp
      rename_i i
      rcases mb e s1 with _ | ⟨b, s2⟩
      · simp
      · rcases b with x | j
        · cases x <;> simp
          rename_i j
          cases hf : f i j
          · simp
          · simp
            rcases mc e s2 with _ | ⟨c, s3⟩
            · simp
            · rcases c with x | j
              · cases x <;> simp
              · simp
        · simp
    · simp
@[simp] theorem R_eCh (f g : Int → Int → Bool) (ma mb mc : ME) : R (eCh f g ma mb mc e s) Q ↔ R (chK f g ma mb mc e s) fun k s1 => Q (.d (.bool k)) s1 := by
  unfold eCh
  rcases chK f g ma mb mc e s with _ | ⟨k, s1⟩ <;> simp
end
noncomputable def b_is_number : MS := (sSeq (sRet (eAnd (eIsi .int (eVar 0)) (eAnd (eNot (eIsi .bl (eVar 0))) (eCh (fun i j => decide (i ≤ j)) (fun i j => decide (i ≤ j)) (eVar 1) (eVar 0) (eVar 2)))))
  sNil)
noncomputable def m_is_number : FA := fnR 3 3 false b_is_number
/-- an integer within bounds -/
def isN (a b : Int) : PyData → Bool
  | .int i => decide (a ≤ i) && decide (i ≤ b)
  | _ => false
theorem number_ok (x : PyData) (a b : Int) (s : Sto) : m_is_number s [.d x, .d (.int a), .d (.int b)] = some (.d (.bool (isN a b x)), s) := by
  apply R.eq
  unfold m_is_number b_is_number
  rw [R_fn]
  refine ⟨rfl, ?_⟩
  simp only [List.map_cons, List.map_nil, List.length_cons, List.length_nil, Nat.reduceSub, Nat.reduceAdd, List.replicate_succ, List.replicate_zero, List.cons_append, List.nil_append]
  rw [Rs_seq, Rs_ret]
  simp only [Rs_nil, R_call, R_cons, R_nil, R_Var, R_C, R_bin, R_cmp, R_tcmp, R_tOr, R_tAnd, R_tNot, R_tVal, R_tTrue, R_ite, R_eAnd, R_eOr, R_eNot, R_neg, R_tup, R_isi, R_some, Rc_some, N.v_eq, N.v_ne, N.v_lt, N.v_le, N.v_gt, N.v_ge, N.v_add, N.v_sub, N.v_iadd, N.v_xor, N.v_int, N.tru_b, N.pd_d, N.data_nil, N.data_cons, N.len_t, N.v_tupT, N.g_name, N.isNone_n, N.isNone_t, N.isNone_i, N.v_isN, N.v_isNn, N.v_eqB, N.v_neB, List.set_cons_succ, List.set_cons_zero, List.getElem?_cons_succ, List.getElem?_cons_zero, Bool.not_true, Bool.not_false, Bool.false_eq_true, Bool.true_eq_false, eq_self, true_implies, false_implies, true_and, and_true, decide_true, decide_false, Int.zero_add, N.R_sl, N.R_it, R_oNone, R_oSome, wipeN, N.R_lst, N.R_mkF, N.R_mkT, N.R_meth, N.v_addT, Ri_rng1, Ri_rng2, Ri_seq]
  cases x <;> simp [TyT.of, Z.isInt, Z.isBl, isN, R_retd, N.thn_nx, N.thn_rt, Rs_seq, Rs_set, Rs_ret, Rs_expr, Rs_nil, Rs_if, Rs_asg, Rs_aug, R_call, R_cons, R_nil, R_Var, R_C, R_bin, R_cmp, R_tcmp, R_tOr, R_tAnd, R_tNot, R_tVal, R_tTrue, R_ite, R_eAnd, R_eOr, R_eNot, R_neg, R_tup, R_isi, R_some, Rc_some, N.v_eq, N.v_ne, N.v_lt, N.v_le, N.v_gt, N.v_ge, N.v_add, N.v_sub, N.v_iadd, N.v_xor, N.v_int, N.tru_b, N.pd_d, N.data_nil, N.data_cons, N.len_t, N.v_tupT, N.g_name, N.isNone_n, N.isNone_t, N.isNone_i, N.v_isN, N.v_isNn, N.v_eqB, N.v_neB, List.set_cons_succ, List.set_cons_zero, List.getElem?_cons_succ, List.getElem?_cons_zero, Bool.not_true, Bool.not_false, Bool.false_eq_true, Bool.true_eq_false, eq_self, true_implies, false_implies, true_and, and_true, decide_true, decide_false, Int.zero_add, N.R_sl, N.R_it, R_oNone, R_oSome, wipeN, N.R_lst, N.R_mkF, N.R_mkT, N.R_meth, N.v_addT, Ri_rng1, Ri_rng2, Ri_seq, R_eCh, R_chK]
  rename_i i
  by_cases h : a ≤ i
  · simp [h]
    omega
  · simp [h]
theorem all_map {α : Type} {s : Sto} (f : α → Bool) (l : List α) : bAll s [.d (.list (l.map fun x => PyData.bool (f x)))] = some (.d (.bool (l.all f)), s) := by
  unfold bAll qL f1 asL
  simp only [List.map_map, bools_mapf]
  simp [Function.comp_def]
end N

namespace N
open PySem L2 PyProof.Rows

/-- .. bools too -/
def wd (B : Nat) : Nat → PyData → Prop
  | 0, _ => False
  | n + 1, .tuple xs => xs.length ≤ B ∧ ∀ x ∈ xs, wd B n x
  | _ + 1, .int _ => True
  | _ + 1, .str _ => True
  | _ + 1, .none => True
  | _ + 1, .bool _ => True
  | _ + 1, _ => False
theorem wd_up {B B' : Nat} (hN : B ≤ B') : ∀ {k k' : Nat} {x : PyData}, k ≤ k' → wd B k x → wd B' k' x
  | k + 1, k' + 1, .tuple xs, l, h => ⟨Nat.le_trans h.1 hN, fun x hx => wd_up hN (by omega) (h.2 x hx)⟩
  | k + 1, k' + 1, .int _, _, _ => trivial
  | k + 1, k' + 1, .str _, _, _ => trivial
  | k + 1, k' + 1, .none, _, _ => trivial
  | k + 1, k' + 1, .bool _, _, _ => trivial
  | k + 1, 0, _, l, _ => by omega
theorem cutD_len {α : Type} (xs : List α) (lo hi : Option Int) : (cutD xs lo hi).length ≤ xs.length := by
  unfold cutD
  rw [List.length_take, List.length_drop]
  omega
theorem R_rev (own : Bool) (m : ME) {e : Lo} {s : Sto} {Q : D → Sto → Prop} : R (eRev own m e s) Q ↔ R (m e s) fun d s1 => match d with
    | .d (.tuple xs) => Q (.d (.tuple xs.reverse)) s1
    | d => Rc (asL s1 d) fun ds => R (mkL own s1 ds.reverse) Q := by
  unfold eRev
  rcases m e s with _ | ⟨d, s1⟩
  · simp
  · rcases d with x | j
    · cases x <;> simp [asL]
    · simp only [R_some]
      rcases h : asL s1 (.r j) with _ | ds <;> simp
end N

namespace N
open PySem L2 PyProof.Rows

end N

namespace N
open PySem L2 PyProof.Rows

end N

namespace N
open PySem L2 PyProof.Rows

def mis (l : List Nat) : Bool := if l.all (fun a => decide (a < 2)) = true then decide (l.sum % 2 = 1) else decide (xr l = 0)
def asc3 (x : Nat) : List Nat := if x < 2 then [0, 1] else [0, 1, x]
def put (hs : List Nat) (i k : Nat) : List Nat := hs.take i ++ [k] ++ hs.drop (i + 1)
/-- the sizes that may be left of the heap i by a move that wins -/
def good (hs : List Nat) (i : Nat) : List Nat := (asc3 (hs.getD i 0 ^^^ xr hs)).filter fun k => decide (k < hs.getD i 0) && mis (put hs i k)
end N

namespace N
open PySem L2 PyProof.Rows

theorem chk_app {s g : Sto} {j : Nat} {ds : List D} (h : s[j]? = some (.lst ds)) : chkOk (some (j, ds)) (s ++ g) := by
  unfold chkOk
  have hj : j < s.length := (List.getElem?_eq_some_iff.mp h).1
  simp only [List.getElem?_append_left hj, h]
end N

namespace N
open PySem L2 PyProof.Rows

end N

namespace N
open PySem L2 PyProof.Rows

noncomputable def sd (M : List (List Nat)) : List PyData := Z.srt (Z.dd (M.map tup))
theorem srt_sd {L M : List (List Nat)} (nd : L.Nodup) (h : ∀ r, r ∈ L ↔ r ∈ M) : Z.srt (L.map tup) = sd M := by
  unfold sd
  refine Z.srt_eq (srtOk_tup L).al ((List.perm_ext_iff_of_nodup ?_ (dd_nodup _)).mpr fun x => ?_)
  · exact List.Pairwise.map tup (fun a b h e => h (tup_inj e)) nd
  · rw [Z.dd_mem, List.mem_map, List.mem_map]
    constructor
    · rintro ⟨r, h1, rfl⟩; exact ⟨r, (h r).mp h1, rfl⟩
    · rintro ⟨r, h1, rfl⟩; exact ⟨r, (h r).mpr h1, rfl⟩
theorem tup_map_inj {a b : List (List Nat)} (h : a.map tup = b.map tup) : a = b := by
  induction a generalizing b with
  | nil => cases b with
    | nil => rfl
    | cons y b => cases h
  | cons x a ih => cases b with
    | nil => cases h
    | cons y b =>
      rw [List.map_cons, List.map_cons] at h
      injection h with h1 h2
      rw [tup_inj h1, ih h2]
theorem sd_eq {L M : List (List Nat)} (nd : L.Nodup) (h : ∀ r, r ∈ L ↔ r ∈ M) : sd L = sd M := (srt_sd nd fun _ => Iff.rfl).symm.trans (srt_sd nd h)
/-- a row of rows in order, each once -/
structure Canon (H : List (List Nat)) : Prop where
  nd : H.Nodup
  so : sd H = H.map tup
theorem Canon.eq {A B : List (List Nat)} (a : Canon A) (b : Canon B) (h : ∀ r, r ∈ A ↔ r ∈ B) : A = B := tup_map_inj (by rw [← a.so, ← b.so, sd_eq a.nd h])
section
variable {α : Type} [DecidableEq α] (kf : α → PyData) (vf : α → D)
def DG (M : List α) : List (PyData × D) := M.map fun a => (kf a, vf a)
variable {kf vf}
theorem has_DG (inj : ∀ a b, kf a = kf b → a = b) (M : List α) (a : α) : dHas (DG kf vf M) (kf a) = decide (a ∈ M) := by
  rw [Bool.eq_iff_iff, decide_eq_true_eq]
  unfold dHas DG
  simp only [List.any_map, List.any_eq_true, Function.comp, decide_eq_true_eq]
  exact ⟨fun ⟨x, h1, h2⟩ => inj _ _ h2 ▸ h1, fun h1 => ⟨a, h1, rfl⟩⟩
theorem get_DG (inj : ∀ a b, kf a = kf b → a = b) {M : List α} {a : α} (hm : a ∈ M) : dGet (DG kf vf M) (kf a) = some (vf a) := by
  unfold dGet DG
  induction M with
  | nil => cases hm
  | cons x M ih =>
    rw [List.map_cons, List.find?_cons]
    by_cases e : x = a
    · subst e
      simp
    · have : decide (kf x = kf a) = false := decide_eq_false fun h => e (inj _ _ h)
      simp only [this]
      exact ih (by
        rcases List.mem_cons.mp hm with r | r
        · exact (e r.symm).elim
        · exact r)
end
section
variable {α : Type} [DecidableEq α] (g : α → Nat)
variable {g}
end
def KS (ns : List Nat) (kvs : List (Key × D)) : Prop := (∀ k : Nat, kHas kvs (.inl (k : Int)) = decide (k ∈ ns)) ∧ kvs.length ≤ ns.length
theorem KS.nil : KS [] [] := ⟨fun k => by simp [kHas], by simp⟩
theorem KS.put {ns : List Nat} {kvs : List (Key × D)} (h : KS ns kvs) (v : Nat) (d : D) : KS (ns ++ [v]) (kPut kvs (.inl (v : Int)) d) := by
  refine ⟨fun k => ?_, ?_⟩
  · rw [Bool.eq_iff_iff, kHas_put, h.1, decide_eq_true_eq, decide_eq_true_eq, List.mem_append, List.mem_singleton]
    constructor
    · rintro (e | e)
      · right
        simp at e
        omega
      · exact .inl e
    · rintro (e | e)
      · exact .inr e
      · exact .inl (by rw [e])
  · have := @kPut_len kvs (.inl (v : Int)) d
    have := h.2
    rw [List.length_append]
    simp
    omega
end N

namespace N
open PySem L2 PyProof.Rows

end N

namespace N
open PySem L2 PyProof.Rows

/-- a tuple, a list, a list of the store -/
def LL (s : Sto) (d : D) (xs : List PyData) : Prop := d = .d (.tuple xs) ∨ d = .d (.list xs) ∨ ∃ j, d = .r j ∧ s[j]? = some (.lst (xs.map .d))
theorem LL.app {s : Sto} {d : D} {xs : List PyData} (h : LL s d xs) (g : Sto) : LL (s ++ g) d xs := by
  rcases h with h | h | ⟨j, h, hj⟩
  · exact .inl h
  · exact .inr (.inl h)
  · exact .inr (.inr ⟨j, h, by rw [List.getElem?_append_left (List.getElem?_eq_some_iff.mp hj).1]; exact hj⟩)
/-- the check of a for holds whatever is put behind -/
def CkA (ck : Option (Nat × List D)) (s : Sto) : Prop := ∀ g, chkOk ck (s ++ g)
theorem CkA.none (s : Sto) : CkA none s := fun _ => trivial
theorem CkA.app {ck : Option (Nat × List D)} {s : Sto} (h : CkA ck s) (g : Sto) : CkA ck (s ++ g) := fun g' => by rw [List.append_assoc]; exact h _
theorem CkA.lst {s : Sto} {j : Nat} {ds : List D} (h : s[j]? = some (.lst ds)) : CkA (some (j, ds)) s := fun _ => chk_app h
theorem Ri_LL {m : ME} {e : Lo} {s : Sto} {d : D} {xs : List PyData} (hm : m e s = some (d, s)) (h : LL s d xs) : Ri (iSeq m e s) fun items ck s1 => items = xs.map .d ∧ CkA ck s ∧ s1 = s := by
  rw [Ri_seq, hm, R_some]
  rcases h with rfl | rfl | ⟨j, rfl, hj⟩
  · exact ⟨rfl, CkA.none _, rfl⟩
  · exact ⟨rfl, CkA.none _, rfl⟩
  · simp only [hj]
    exact ⟨by trivial, CkA.lst hj, by trivial⟩
theorem Ri_LLx {m : ME} {e : Lo} {s g : Sto} {d : D} {xs : List PyData} (hm : m e (s ++ g) = some (d, s ++ g)) (h : LL s d xs) : Ri (iSeq m e (s ++ g)) fun items ck s1 => items = xs.map .d ∧ CkA ck s ∧ s1 = s ++ g := by
  rw [Ri_seq, hm, R_some]
  rcases h with rfl | rfl | ⟨j, rfl, hj⟩
  · exact ⟨rfl, CkA.none _, rfl⟩
  · exact ⟨rfl, CkA.none _, rfl⟩
  · have hj2 : (s ++ g)[j]? = some (.lst (xs.map .d)) := by rw [List.getElem?_append_left (List.getElem?_eq_some_iff.mp hj).1]; exact hj
    simp only [hj2]
    exact ⟨by trivial, CkA.lst hj, by trivial⟩
theorem in_LL {neg : Bool} {s : Sto} {d : D} {ds : List PyData} {x : PyData} (l : LL s d ds) (h : pks ds = true) (hx : pk x = true) (hd : min (PyData.depthAll ds) x.depth ≤ 60) : cIn neg s (.d x) d = some (if neg then !decide (x ∈ ds) else decide (x ∈ ds)) := by
  rcases l with rfl | rfl | ⟨j, rfl, hj⟩
  · exact v_inT rfl h hx hd
  · exact v_inL rfl h hx hd
  · unfold cIn
    simp only [hj, data_map, pd_d]
    exact v_inQ h hx hd
theorem len_LL {s : Sto} {d : D} {ds : List PyData} (l : LL s d ds) : bLen s [d] = some (.d (.int ds.length), s) := by
  rcases l with rfl | rfl | ⟨j, rfl, hj⟩
  · exact len_t _
  · exact len_l _
  · rw [len_r hj, List.length_map]
theorem R_lcG {α : Type} (l : List α) (enc : α → D) (f : α → PyData) (p : α → Bool) {vs : List Nat} {mi : MI} {g : MG} {mt : MT} {el : ME} {e : Lo} {s : Sto} {Q : D → Sto → Prop} (hi : Ri (mi e s) fun items ck s1 => items = l.map enc ∧ CkA ck s ∧ s1 = s)
    (h : ∀ x ∈ l, ∀ acc, Rc (g (enc x) (wipeN e vs)) fun e1 => R (mt e1 (s ++ [.lst acc])) fun b s2 => b = p x ∧ s2 = s ++ [.lst acc] ∧ (p x = true → R (el e1 (s ++ [.lst acc])) fun d s3 => d = .d (f x) ∧ s3 = s ++ [.lst acc])) (hl : l.length ≤ lim) (q : Q (.d (.list ((l.filter p).map f))) s) : R (eLc false vs mi g mt el e s) Q := by
  obtain ⟨_, ck, s1, h1, rfl, hc, h2⟩ := hi
  subst h2
  refine R.of ?_ q
  unfold eLc
  simp only [h1]
  rw [lcL_pure (fun x => .d (f x)) p rfl (fun _ => hc _) l [] (fun x hx acc => ?_) (by simpa using hl)]
  · simp only [List.nil_append]
    have := lcFin_d s1 ((l.filter p).map f)
    rw [List.map_map] at this
    exact this
  · obtain ⟨e1, h2, b, s2, h3, rfl, rfl, h4⟩ := h x hx acc
    refine ⟨e1, h2, h3, fun hp => ?_⟩
    obtain ⟨_, _, h5, rfl, rfl⟩ := h4 hp
    exact h5
theorem R_lcmG {α : Type} (l : List α) (enc : α → D) (f : α → PyData) {vs : List Nat} {mi : MI} {g : MG} {el : ME} {e : Lo} {s : Sto} {Q : D → Sto → Prop} (hi : Ri (mi e s) fun items ck s1 => items = l.map enc ∧ CkA ck s ∧ s1 = s)
    (h : ∀ x ∈ l, ∀ acc, Rc (g (enc x) (wipeN e vs)) fun e1 => R (el e1 (s ++ [.lst acc])) fun d s3 => d = .d (f x) ∧ s3 = s ++ [.lst acc]) (hl : l.length ≤ lim) (q : Q (.d (.list (l.map f))) s) : R (eLc false vs mi g tTrue el e s) Q := by
  refine R_lcG l enc f (fun _ => true) hi (fun x hx acc => ?_) hl (by rwa [List.filter_eq_self.mpr (fun _ _ => rfl)])
  obtain ⟨e1, h1, h2⟩ := h x hx acc
  exact ⟨e1, h1, R_tTrue.mpr ⟨rfl, rfl, fun _ => h2⟩⟩
theorem lc2L_G {α β : Type} {enc : α → D} {enc2 : β → D} {l2 : α → List β} (f : α → β → PyData) (p : α → Bool) (q : α → β → Bool) {k : Nat} {ck : Option (Nat × List D)} {g : MG} {mt mt1 : MT} {mi1 : MI} {g1 : MG} {el : ME} {vs1 : List Nat} {e0 : Lo} {s : Sto} (hk : k = s.length) (hck : CkA ck s) : ∀ (l : List α) (acc : List D),
    (∀ x ∈ l, ∀ acc, ∃ e1, g (enc x) e0 = some e1 ∧ mt e1 (s ++ [.lst acc]) = some (p x, s ++ [.lst acc]) ∧ (p x = true → ∃ ck1, CkA ck1 s ∧ mi1 e1 (s ++ [.lst acc]) = some ((l2 x).map enc2, ck1, s ++ [.lst acc]) ∧ ∀ y ∈ l2 x, ∀ acc, ∃ e2, g1 (enc2 y) (wipeN e1 vs1) = some e2 ∧ mt1 e2 (s ++ [.lst acc]) = some (q x y, s ++ [.lst acc]) ∧ (q x y = true → el e2 (s ++ [.lst acc]) = some (.d (f x y), s ++ [.lst acc])))) →
    acc.length + (l.flatMap l2).length ≤ lim → lc2L k ck g mt mi1 g1 mt1 el vs1 e0 (l.map enc) (s ++ [.lst acc]) = some (s ++ [.lst (acc ++ ((l.filter p).flatMap fun x => ((l2 x).filter (q x)).map (f x)).map D.d)])
  | [], acc, h, hl => by
    rw [List.map_nil]
    unfold lc2L
    rw [if_pos (hck _)]
    simp
  | x :: l, acc, h, hl => by
    obtain ⟨e1, h1, h0, h2⟩ := h x List.mem_cons_self acc
    rw [List.map_cons]
    unfold lc2L
    rw [if_pos (hck _)]
    rw [List.flatMap_cons, List.length_append] at hl
    by_cases hp : p x = true
    · obtain ⟨ck1, c1, h2, h3⟩ := h2 hp
      have h4 := lcL_pure (k := k) (ck := ck1) (g := g1) (mt := mt1) (el := el) (e0 := wipeN e1 vs1) (enc := enc2) (fun y => D.d (f x y)) (q x) (s := s) hk (fun _ => c1 _) (l2 x) acc (fun y hy acc => by
        obtain ⟨e2, h5, h6, h7⟩ := h3 y hy acc
        exact ⟨e2, h5, h6, h7⟩) (by omega)
      simp only [h1, h0, hp, h2]
      rw [h4]
      simp only []
      have hf := List.length_filter_le (q x) (l2 x)
      have := lc2L_G (enc := enc) (enc2 := enc2) (l2 := l2) f p q (k := k) (ck := ck) (g := g) (mt := mt) (mt1 := mt1) (mi1 := mi1) (g1 := g1) (el := el) (vs1 := vs1) (e0 := e0) (s := s) hk hck l (acc ++ ((l2 x).filter (q x)).map fun y => D.d (f x y)) (fun y hy acc => h y (List.mem_cons_of_mem _ hy) acc) (by rw [List.length_append, List.length_map]; omega)
      rw [this, List.filter_cons, if_pos hp]
      simp [Function.comp_def]
    · have hp' : p x = false := by simpa using hp
      simp only [h1, h0, hp']
      rw [List.filter_cons, if_neg hp]
      exact lc2L_G (enc := enc) (enc2 := enc2) (l2 := l2) f p q hk hck l acc (fun y hy acc => h y (List.mem_cons_of_mem _ hy) acc) (by omega)
theorem R_lc2G {α β : Type} (l : List α) (enc : α → D) (l2 : α → List β) (enc2 : β → D) (f : α → β → PyData) (p : α → Bool) (q : α → β → Bool) {vs vs1 : List Nat} {mi mi1 : MI} {g g1 : MG} {mt mt1 : MT} {el : ME} {e : Lo} {s : Sto} {Q : D → Sto → Prop} (hi : Ri (mi e s) fun items ck s1 => items = l.map enc ∧ CkA ck s ∧ s1 = s)
    (h : ∀ x ∈ l, ∀ acc, Rc (g (enc x) (wipeN e vs)) fun e1 => R (mt e1 (s ++ [.lst acc])) fun b s2 => b = p x ∧ s2 = s ++ [.lst acc] ∧ (p x = true → Ri (mi1 e1 (s ++ [.lst acc])) (fun items ck s2 => items = (l2 x).map enc2 ∧ CkA ck s ∧ s2 = s ++ [.lst acc]) ∧ ∀ y ∈ l2 x, ∀ acc, Rc (g1 (enc2 y) (wipeN e1 vs1)) fun e2 => R (mt1 e2 (s ++ [.lst acc])) fun b s3 => b = q x y ∧ s3 = s ++ [.lst acc] ∧ (q x y = true → R (el e2 (s ++ [.lst acc])) fun d s3 => d = .d (f x y) ∧ s3 = s ++ [.lst acc])))
    (hl : (l.flatMap l2).length ≤ lim) (k : Q (.d (.list ((l.filter p).flatMap fun x => ((l2 x).filter (q x)).map (f x)))) s) : R (eLc2 false vs vs1 mi g mt mi1 g1 mt1 el e s) Q := by
  obtain ⟨_, ck, s1, h1, rfl, hc, h2⟩ := hi
  subst h2
  refine R.of (x := .d (.list ((l.filter p).flatMap fun x => ((l2 x).filter (q x)).map (f x)))) ?_ k
  unfold eLc2
  simp only [h1]
  rw [lc2L_G (l2 := l2) (enc := enc) (enc2 := enc2) f p q (s := s1) rfl hc l [] (fun x hx acc => by
    obtain ⟨e1, a1, b, s2, a0, rfl, rfl, a2⟩ := h x hx acc
    refine ⟨e1, a1, a0, fun hp => ?_⟩
    obtain ⟨a2, a3⟩ := a2 hp
    obtain ⟨_, ck1, _, a4, rfl, c1, rfl⟩ := a2
    refine ⟨ck1, c1, a4, fun y hy acc => ?_⟩
    obtain ⟨e2, b1, b, s3, b2, rfl, rfl, b3⟩ := a3 y hy acc
    refine ⟨e2, b1, b2, fun hq => ?_⟩
    obtain ⟨d, s4, b4, rfl, rfl⟩ := b3 hq
    exact b4) (by simpa using hl)]
  simp only [List.nil_append]
  exact lcFin_d _ _
theorem ints_nt' : ∀ ns : List Nat, intsOf ((nt ns).map D.d) = some (ns.map ci)
  | [] => rfl
  | n :: ns => by
    have ih := ints_nt' ns
    simp only [nt, List.map_cons, intsOf] at ih ⊢
    rw [ih]
    rfl
theorem v_rem {s : Sto} {ns : List Nat} {k : Nat} {Qm : List D → D → Prop} (hk : k ∈ ns) (q : Qm (((nt (ns.erase k)).map .d)) (.d .none)) : Rm (fRem s ((nt ns).map .d) [.d (.int (k : Nat))]) Qm := by
  have e1 : intsOf ((nt ns).map D.d) = some (ns.map ci) := ints_nt' ns
  have key : ∀ ns : List Nat, k ∈ ns → ∃ j, (ns.map ci).findIdx? (fun n => decide (n = (k : Int))) = some j ∧ ((nt ns).map D.d).eraseIdx j = (nt (ns.erase k)).map D.d := by
    intro ns
    induction ns with
    | nil => intro h; cases h
    | cons a l ih =>
      intro h
      by_cases e : a = k
      · subst e
        refine ⟨0, by simp [ci, List.findIdx?_cons], by simp [nt]⟩
      · have hm : k ∈ l := by
          rcases List.mem_cons.mp h with h | h
          · exact (e h.symm).elim
          · exact h
        obtain ⟨j, h1, h2⟩ := ih hm
        refine ⟨j + 1, ?_, ?_⟩
        · rw [List.map_cons, List.findIdx?_cons, if_neg (by unfold ci; simp; omega), h1]
          rfl
        · rw [List.erase_cons_tail (by simpa using e)]
          simp only [nt, List.map_cons, List.eraseIdx_cons_succ] at h2 ⊢
          rw [h2]
  obtain ⟨j, h1, h2⟩ := key ns hk
  refine ⟨_, _, ?_, q⟩
  unfold fRem
  simp only [e1, h1, h2]
end N

namespace N
open PySem L2 PyProof.Rows

def evR : Option Nat → Bool
  | some t => decide (t % 2 = 0)
  | none => false
def odR : Option Nat → Bool
  | some t => decide (t % 2 = 1)
  | none => false
section
variable (mv : Bool → Nat → List Nat)
def wonB (f : Bool → Nat → Option Nat) (w : Bool) (i : Nat) : Bool := (mv w i).any fun j => evR (f (!w) j)
def lostB (f : Bool → Nat → Option Nat) (w : Bool) (i : Nat) : Bool := (mv w i).all fun j => odR (f (!w) j)
def dueB (f : Bool → Nat → Option Nat) (w : Bool) (i : Nat) : Bool := wonB mv f w i || lostB mv f w i
def stg : Nat → Bool → Nat → Option Nat
  | 0 => fun _ _ => none
  | r + 1 => fun w i => match stg r w i with
    | some t => some t
    | none => if dueB mv (stg r) w i then some r else none
end
section
variable {mv : Bool → Nat → List Nat}
theorem stg_succ {r : Nat} {w : Bool} {i : Nat} : stg mv (r + 1) w i = match stg mv r w i with
    | some t => some t
    | none => if dueB mv (stg mv r) w i then some r else none := rfl
theorem stg_some {r : Nat} {w : Bool} {i t : Nat} (h : stg mv r w i = some t) : stg mv (r + 1) w i = some t := by
  rw [stg_succ, h]
theorem stg_mono {r r' : Nat} (hr : r ≤ r') {w : Bool} {i t : Nat} (h : stg mv r w i = some t) : stg mv r' w i = some t := by
  induction r' with
  | zero => rwa [show r = 0 by omega] at h
  | succ r' ih =>
    by_cases e : r = r' + 1
    · rwa [← e]
    · exact stg_some (ih (by omega))
def ptsB (n : Nat) : List (Bool × Nat) := (List.range n).map (fun i => (true, i)) ++ (List.range n).map fun i => (false, i)
theorem mem_ptsB {n : Nat} {p : Bool × Nat} : p ∈ ptsB n ↔ p.2 < n := by
  obtain ⟨w, i⟩ := p
  unfold ptsB
  cases w <;> simp
theorem len_ptsB (n : Nat) : (ptsB n).length = 2 * n := by
  unfold ptsB
  simp
  omega
theorem flt_le {α : Type} {P Q : α → Bool} (h : ∀ q, P q = true → Q q = true) : ∀ E : List α, (E.filter P).length ≤ (E.filter Q).length
  | [] => Nat.le_refl _
  | a :: E => by
    have := flt_le h E
    rw [List.filter_cons, List.filter_cons]
    cases hp : P a with
    | true => rw [if_pos rfl, if_pos (h a hp)]; simp; omega
    | false =>
      rw [if_neg Bool.false_ne_true]
      split
      · simp; omega
      · exact this
theorem flt_lt {α : Type} {P Q : α → Bool} (h : ∀ q, P q = true → Q q = true) : ∀ {E : List α} {p : α}, p ∈ E → P p = false → Q p = true → (E.filter P).length + 1 ≤ (E.filter Q).length
  | a :: E, p, hp, h1, h2 => by
    rw [List.filter_cons, List.filter_cons]
    rcases List.mem_cons.mp hp with rfl | hp
    · have := flt_le h E
      rw [if_neg (by rw [h1]; exact Bool.false_ne_true), if_pos h2]
      simp
      omega
    · have := flt_lt h hp h1 h2
      cases hpa : P a with
      | true => rw [if_pos rfl, if_pos (h a hpa)]; simp; omega
      | false =>
        rw [if_neg Bool.false_ne_true]
        split
        · simp; omega
        · exact this
structure MvOk (n : Nat) (mv : Bool → Nat → List Nat) : Prop where
  lt : ∀ w i, i < n → ∀ j ∈ mv w i, j < n
def StB (n : Nat) (mv : Bool → Nat → List Nat) (r : Nat) : Prop := ∀ w i, i < n → stg mv (r + 1) w i = stg mv r w i
theorem any_congr {α : Type} {l : List α} {f g : α → Bool} (h : ∀ x ∈ l, f x = g x) : l.any f = l.any g := by
  induction l with
  | nil => rfl
  | cons a l ih =>
    rw [List.any_cons, List.any_cons, h a List.mem_cons_self, ih fun x hx => h x (List.mem_cons_of_mem _ hx)]
theorem all_congr {α : Type} {l : List α} {f g : α → Bool} (h : ∀ x ∈ l, f x = g x) : l.all f = l.all g := by
  induction l with
  | nil => rfl
  | cons a l ih =>
    rw [List.all_cons, List.all_cons, h a List.mem_cons_self, ih fun x hx => h x (List.mem_cons_of_mem _ hx)]
theorem due_congr {n : Nat} (ok : MvOk n mv) {f g : Bool → Nat → Option Nat} (h : ∀ w i, i < n → f w i = g w i) {w : Bool} {i : Nat} (hi : i < n) : dueB mv f w i = dueB mv g w i := by
  unfold dueB wonB lostB
  rw [any_congr fun j hj => by rw [h _ j (ok.lt w i hi j hj)], all_congr fun j hj => by rw [h _ j (ok.lt w i hi j hj)]]
theorem StB.next {n r : Nat} (ok : MvOk n mv) (h : StB n mv r) : StB n mv (r + 1) := fun w i hi => by
  have e := h w i hi
  cases hs : stg mv r w i with
  | some t =>
    rw [hs] at e
    rw [e]
    exact stg_some e
  | none =>
    rw [hs] at e
    have hd : dueB mv (stg mv r) w i = false := by
      cases hd : dueB mv (stg mv r) w i with
      | false => rfl
      | true =>
        rw [stg_succ, hs] at e
        simp only [hd, if_true] at e
        cases e
    rw [e, stg_succ, e]
    simp only [due_congr ok h hi, hd]
    rfl
theorem StB.up {n r r' : Nat} (ok : MvOk n mv) (h : StB n mv r) (hr : r ≤ r') : ∀ w i, i < n → stg mv r' w i = stg mv r w i := by
  have all : ∀ k, StB n mv (r + k) := fun k => by
    induction k with
    | zero => exact h
    | succ k ih => exact ih.next ok
  intro w i hi
  obtain ⟨k, rfl⟩ : ∃ k, r' = r + k := ⟨r' - r, by omega⟩
  induction k with
  | zero => rfl
  | succ k ih => rw [← Nat.add_assoc, all k w i hi, ih (by omega)]
theorem stable {n : Nat} (ok : MvOk n mv) : StB n mv (2 * n) := by
  have key : ∃ r ≤ 2 * n, StB n mv r := by
    refine Classical.byContradiction fun hne => ?_
    have hn : ∀ r, r ≤ 2 * n → ¬ StB n mv r := fun r hr h => hne ⟨r, hr, h⟩
    have grow : ∀ r, r ≤ 2 * n + 1 → r ≤ ((ptsB n).filter fun p => (stg mv r p.1 p.2).isSome).length := fun r => by
      induction r with
      | zero => exact fun _ => Nat.zero_le _
      | succ r ih =>
        intro hr
        have h1 := ih (by omega)
        have h2 : ∃ w i, i < n ∧ stg mv (r + 1) w i ≠ stg mv r w i := by
          refine Classical.byContradiction fun hc => hn r (by omega) fun w i hi => Classical.byContradiction fun hx => hc ⟨w, i, hi, hx⟩
        obtain ⟨w, i, hi, hx⟩ := h2
        have := flt_lt (E := ptsB n) (P := fun p => (stg mv r p.1 p.2).isSome) (Q := fun p => (stg mv (r + 1) p.1 p.2).isSome) (p := (w, i)) (fun q hq => by
          obtain ⟨t, e⟩ := Option.isSome_iff_exists.mp hq
          rw [stg_some e]
          rfl) (mem_ptsB.mpr hi) (by
          cases e : stg mv r w i with
          | none => rfl
          | some t => exact absurd ((stg_some e).trans e.symm) hx) (by
          cases e : stg mv (r + 1) w i with
          | some t => rfl
          | none =>
            cases e2 : stg mv r w i with
            | some t => rw [stg_some e2] at e; cases e
            | none => exact absurd (e.trans e2.symm) hx)
        omega
    have h1 := grow (2 * n + 1) (Nat.le_refl _)
    have h2 := List.length_filter_le (fun p => (stg mv (2 * n + 1) p.1 p.2).isSome) (ptsB n)
    rw [len_ptsB] at h2
    omega
  obtain ⟨r, hr, h⟩ := key
  intro w i hi
  rw [h.up ok (show r ≤ 2 * n + 1 by omega) w i hi, h.up ok hr w i hi]
/-- the rank -/
def rkB (n : Nat) (mv : Bool → Nat → List Nat) (w : Bool) (i : Nat) : Option Nat := stg mv (2 * n) w i
theorem rk_up {n r : Nat} (ok : MvOk n mv) (hr : 2 * n ≤ r) {w : Bool} {i : Nat} (hi : i < n) : stg mv r w i = rkB n mv w i := (stable ok).up ok hr w i hi
theorem rk_le {n r : Nat} (ok : MvOk n mv) {w : Bool} {i : Nat} (hi : i < n) {t : Nat} (h : stg mv r w i = some t) : rkB n mv w i = some t := by
  have := stg_mono (show r ≤ r + 2 * n by omega) h
  rwa [rk_up ok (by omega) hi] at this
end
end N

namespace N
open PySem L2 PyProof.Rows

noncomputable def b__law_box : MS := (sSeq (sRet (eLst true (aCons (eCall (bList true) (aCons (eSl false (eVar 0) oNone (oSome (eC (.int 63)))) aNil)) (aCons (eC (.int 0)) (aCons (eBin (oAdd true) (eC (.int 4711)) (eCall bLen (aCons (eVar 0) aNil))) aNil)))))
  sNil)
noncomputable def m__law_box : FA := fnR 1 1 true b__law_box
noncomputable def b__law_load : MS := (sSeq (sSet 1 (eIt (eVar 0) (eC (.int 0))))
  (sSeq (sIf (tCmp cGt (eCall bLen (aCons (eVar 1) aNil)) (eC (.int 0))) (sSeq (sSet 2 (eCall bInt (aCons (eMeth fPopAt (eVar 1) (aCons (eC (.int 0)) aNil)) aNil)))
  (sSeq (sSet 3 (eIte (tCmp cGe (eVar 2) (eC (.int 0))) (eBin oMul (eC (.int 2)) (eVar 2)) (eBin oSub (eBin oMul (eNeg (eC (.int 2))) (eVar 2)) (eC (.int 1)))))
  (sSeq (sIf (tCmp cGe (eVar 3) (eC (.int 1000000000000000000))) (sSeq (sRet (eVar 3))
  sNil) sNil)
  (sSeq (sPu (eVar 0) (eC (.int 2)) (eBin oMod (eCall bInt (aCons (eBin (oAdd false) (eBin (oAdd false) (eBin oMul (eIt (eVar 0) (eC (.int 2))) (eC (.int 69621))) (eBin oMul (eVar 3) (eC (.int 48271)))) (eC (.int 11))) aNil)) (eC (.int 2147483647))))
  sNil)))) sNil)
  (sSeq (sSet 4 (eBin oMod (eCall bInt (aCons (eBin (oAdd false) (eBin oMul (eIt (eVar 0) (eC (.int 2))) (eC (.int 48271))) (eC (.int 17))) aNil)) (eC (.int 2147483629))))
  (sSeq (sSet 5 (eBin oMod (eCall bInt (aCons (eBin (oAdd false) (eBin oMul (eVar 4) (eC (.int 69621))) (eC (.int 5))) aNil)) (eC (.int 2147483587))))
  (sSeq (sPu (eVar 0) (eC (.int 2)) (eBin oMod (eCall bInt (aCons (eBin (oAdd false) (eBin oMul (eVar 5) (eC (.int 40692))) (eC (.int 3))) aNil)) (eC (.int 2147483563))))
  (sSeq (sRet (eBin (oAdd false) (eBin (oAdd false) (eBin oMul (eVar 4) (eC (.int 4611686014132420609))) (eBin oMul (eVar 5) (eC (.int 2147483647)))) (eIt (eVar 0) (eC (.int 2)))))
  sNil))))))
noncomputable def m__law_load : FA := fnR 1 6 false b__law_load
noncomputable def b__law_draw : MS := (sSeq (sIf (tCmp cLt (eIt (eVar 0) (eC (.int 1))) (eVar 1)) (sSeq (sPu (eVar 0) (eC (.int 1)) (eCall m__law_load (aCons (eVar 0) aNil)))
  sNil) sNil)
  (sSeq (sSet 2 (eBin oMod (eCall bInt (aCons (eIt (eVar 0) (eC (.int 1))) aNil)) (eVar 1)))
  (sSeq (sPu (eVar 0) (eC (.int 1)) (eBin oDiv (eIt (eVar 0) (eC (.int 1))) (eVar 1)))
  (sSeq (sRet (eVar 2))
  sNil))))
noncomputable def m__law_draw : FA := fnR 2 3 false b__law_draw

def bx (xs : List Int) (p q : Int) (rest : Sto) : Sto := .lst (xs.map fun i => .d (.int i)) :: .lst [.r 0, .d (.int p), .d (.int q)] :: rest
def BS (rest s : Sto) : Prop := ∃ xs p q, s = bx xs p q rest
section
variable {xs : List Int} {p q : Int} {rest : Sto}
theorem bx_0 : itF (bx xs p q rest) (.r 1) (.d (.int 0)) = some (.r 0) := itF_l rfl rfl
theorem bx_1 : itF (bx xs p q rest) (.r 1) (.d (.int 1)) = some (.d (.int p)) := itF_l rfl rfl
theorem bx_2 : itF (bx xs p q rest) (.r 1) (.d (.int 2)) = some (.d (.int q)) := itF_l rfl rfl
theorem bx_len : bLen (bx xs p q rest) [.r 0] = some (.d (.int xs.length), bx xs p q rest) := by
  rw [len_r (s := bx xs p q rest) (j := 0) (ds := xs.map fun i => .d (.int i)) rfl, List.length_map]
theorem xb_1 {v : Int} : putF (bx xs p q rest) (.r 1) (.d (.int 1)) (.d (.int v)) = some (bx xs v q rest) := putF_l (k := 1) (ds := [.r 0, .d (.int p), .d (.int q)]) rfl rfl
theorem xb_2 {v : Int} : putF (bx xs p q rest) (.r 1) (.d (.int 2)) (.d (.int v)) = some (bx xs p v rest) := putF_l (k := 2) (ds := [.r 0, .d (.int p), .d (.int q)]) rfl rfl
theorem bx_c0 : (bx xs p q rest)[0]? = some (.lst (xs.map fun i => .d (.int i))) := rfl
theorem BS.len {s : Sto} (h : BS rest s) : s.length = 2 + rest.length := by
  obtain ⟨xs, p, q, rfl⟩ := h
  simp [bx]; omega
theorem bx_trim {ys : List Int} {p' q' : Int} : trim (bx xs p q rest) (bx ys p' q' rest) = bx ys p' q' rest := trim_len (by simp [bx])
theorem v_pop0 {s : Sto} {y : D} {ys : List D} {Qm : List D → D → Prop} (h : Qm ys y) : Rm (fPopAt s (y :: ys) [.d (.int 0)]) Qm := by
  refine ⟨ys, y, ?_, h⟩
  have e : seqIndex? 0 (y :: ys).length = some 0 := by
    unfold seqIndex?
    simp
  unfold fPopAt
  simp only [e]
  rfl
theorem bx_pop {i : Int} : List.set (bx (i :: xs) p q rest) 0 (Cell.lst (xs.map fun i => D.d (.int i))) = bx xs p q rest := rfl
end
theorem load_ok (xs : List Int) (p q : Int) (rest : Sto) : R (m__law_load (bx xs p q rest) [.r 1]) fun x s' => ∃ (v : Int) (ys : List Int) (q' : Int), x = .d (.int v) ∧ s' = bx ys p q' rest := by
  unfold m__law_load b__law_load
  cases xs with
  | nil =>
    simp [bx_0, bx_1, bx_2, bx_len, Rs_pu, R_it, R_fn, xb_1, xb_2, v_mod, v_mulR, R_retd, bx_trim]
    exact ⟨_, _, rfl⟩
  | cons i xs =>
    simp [bx_0, bx_1, bx_2, bx_len, Rs_pu, R_it, R_fn, xb_1, xb_2, v_mod, v_mulR, R_retd, bx_trim, bx_c0]
    refine v_pop0 ?_
    rw [bx_pop]
    simp [bx_0, bx_1, bx_2, bx_len, xb_1, xb_2, v_mod, v_mulR, v_mulL, R_retd, bx_trim]
    exact ⟨fun _ => ⟨fun _ => ⟨_, _, rfl⟩, fun _ => ⟨_, _, rfl⟩⟩, fun _ => ⟨fun _ => ⟨_, _, rfl⟩, fun _ => ⟨_, _, rfl⟩⟩⟩
theorem draw_ok {rest s : Sto} {m : Int} (h : BS rest s) (h0 : 0 < m) (h1 : m < 2 ^ 256) : R (m__law_draw s [.r 1, .d (.int m)]) fun x s' => ∃ d : Int, x = .d (.int d) ∧ 0 ≤ d ∧ d < m ∧ BS rest s' := by
  obtain ⟨xs, p, q, rfl⟩ := h
  have M (q' : Int) : 0 ≤ q' % m ∧ q' % m < m := ⟨Int.emod_nonneg _ (by omega), Int.emod_lt_of_pos _ h0⟩
  have T (ys : List Int) (p' q' : Int) : BS rest (bx ys p' q' rest) := ⟨ys, p', q', rfl⟩
  unfold m__law_draw b__law_draw
  simp [bx_1, Rs_pu, R_it, R_fn]
  refine ⟨fun _ => ?_, fun _ => ?_⟩
  · refine (load_ok xs p q rest).imp fun x s' ⟨v, ys, q', e1, e2⟩ => ?_
    subst e1 e2
    simp [bx_1, xb_1, v_mod h0, v_div h0 h1, R_retd, bx_trim, M, T]
  · simp [bx_1, xb_1, v_mod h0, v_div h0 h1, R_retd, bx_trim, M, T]
theorem R_draw {rest s : Sto} {m : Nat} {Q : D → Sto → Prop} (h : BS rest s) (h0 : 0 < m) (h1 : m < 2 ^ 256) (q : ∀ (d : Nat) s', d < m → BS rest s' → Q (.d (.int (d : Nat))) s') : R (m__law_draw s [.r 1, .d (.int (m : Nat))]) Q := by
  refine (draw_ok h (m := (m : Int)) (by omega) (by omega)).imp fun x s' ⟨d, e, h2, h3, h4⟩ => ?_
  subst e
  have := q d.toNat s' (by omega) h4
  rwa [Int.toNat_of_nonneg h2] at this
theorem R_box {ns : List Int} {Q : D → Sto → Prop} (q : ∀ s, BS [] s → Q (.r 1) s) : R (m__law_box [] [.d (.list (ns.map .int))]) Q := by
  unfold m__law_box b__law_box
  simp [R_fn, asL, cutD_map, data_mapf, v_list, len_l, ret_own, lim]
  exact q _ ⟨cutD ns none (some 63), 0, 4711 + ns.length, by simp [bx]⟩
theorem BS.wf {rest s : Sto} (h : BS rest s) (f : Flat rest) : Wf s := by
  have hl := h.len
  obtain ⟨xs, p, q, rfl⟩ := h
  intro c hc
  unfold bx at hc
  rcases List.mem_cons.mp hc with rfl | hc
  · intro j hj; simp at hj
  · rcases List.mem_cons.mp hc with rfl | hc
    · intro j hj
      simp at hj
      omega
    · exact f c hc _
theorem BS.app {rest s : Sto} (h : BS rest s) (g : Sto) : BS (rest ++ g) (s ++ g) := by
  obtain ⟨xs, p, q, rfl⟩ := h
  exact ⟨xs, p, q, rfl⟩
theorem BS.unapp {rest g s : Sto} (h : BS (rest ++ g) s) : ∃ s', s = s' ++ g ∧ BS rest s' := by
  obtain ⟨xs, p, q, rfl⟩ := h
  exact ⟨bx xs p q rest, rfl, xs, p, q, rfl⟩
theorem BS.get {rest s : Sto} (h : BS rest s) (j : Nat) : s[j + 2]? = rest[j]? := by
  obtain ⟨xs, p, q, rfl⟩ := h
  rfl
theorem BS.put {rest s : Sto} (h : BS rest s) (j : Nat) (c : Cell) : BS (rest.set j c) (s.set (j + 2) c) := by
  obtain ⟨xs, p, q, rfl⟩ := h
  exact ⟨xs, p, q, rfl⟩
end N

namespace N
open PySem L2 PyProof.Rows

noncomputable def b__law_bent (rec : FA) : MS := (sSeq (sIf (tAnd (tVal (eIsi .tup (eVar 1))) (tAnd (tCmp cGt (eCall bLen (aCons (eVar 1) aNil)) (eC (.int 0))) (tCmp cGt (eCall m__law_draw (aCons (eVar 0) (aCons (eC (.int 5)) aNil))) (eC (.int 0))))) (sSeq (sSet 2 (eCall m__law_draw (aCons (eVar 0) (aCons (eCall bLen (aCons (eVar 1) aNil)) aNil))))
  (sSeq (sRet (eBin (oAdd false) (eBin (oAdd false) (eSl false (eVar 1) oNone (oSome (eVar 2))) (eTup (aCons (eCall rec (aCons (eVar 0) (aCons (eIt (eVar 1) (eVar 2)) aNil))) aNil))) (eSl false (eVar 1) (oSome (eBin (oAdd false) (eVar 2) (eC (.int 1)))) oNone)))
  sNil)) sNil)
  (sSeq (sSet 3 (eCall m__law_draw (aCons (eVar 0) (aCons (eC (.int 8)) aNil))))
  (sSeq (sIf (tVal (eIsi .tup (eVar 1))) (sSeq (sRet (eIt (eLst false (aCons (eBin (oAdd false) (eVar 1) (eSl false (eVar 1) oNone (oSome (eC (.int 1))))) (aCons (eSl false (eVar 1) (oSome (eC (.int 1))) oNone) (aCons (eRev false (eVar 1)) (aCons (eBin (oAdd false) (eVar 1) (eTup (aCons (eC (.int 0)) aNil))) (aCons (eBin (oAdd false) (eSl false (eVar 1) oNone (oSome (eC (.int 1)))) (eVar 1)) (aCons (eSl false (eVar 1) oNone (oSome (eNeg (eC (.int 1))))) (aCons (eC .none) (aCons (eSl false (eVar 1) oNone (oSome (eC (.int 1)))) aNil))))))))) (eVar 3)))
  sNil) sNil)
  (sSeq (sIf (tAnd (tVal (eIsi .int (eVar 1))) (tNot (tVal (eIsi .bl (eVar 1))))) (sSeq (sRet (eIt (eLst false (aCons (eBin (oAdd false) (eVar 1) (eC (.int 1))) (aCons (eBin oSub (eVar 1) (eC (.int 1))) (aCons (eNeg (eVar 1)) (aCons (eCmp cEq (eVar 1) (eC (.int 1))) (aCons (eC .none) (aCons (eCall bStr (aCons (eVar 1) aNil)) (aCons (eTup (aCons (eVar 1) aNil)) (aCons (eBin (oAdd false) (eVar 1) (eC (.int 1001))) aNil))))))))) (eVar 3)))
  sNil) sNil)
  (sSeq (sIf (tVal (eIsi .str (eVar 1))) (sSeq (sRet (eIt (eLst false (aCons (eBin (oAdd false) (eVar 1) (eC (.str "a"))) (aCons (eSl false (eVar 1) (oSome (eC (.int 1))) oNone) (aCons (eC (.str "any")) (aCons (eUpper (eVar 1)) (aCons (eC (.int 0)) (aCons (eC (.str "")) (aCons (eBin (oAdd false) (eVar 1) (eC (.str "z0z0z0z0"))) (aCons (eTup (aCons (eVar 1) aNil)) aNil))))))))) (eVar 3)))
  sNil) sNil)
  (sSeq (sRet (eIt (eLst false (aCons (eC (.int 0)) (aCons (eC (.int 1)) (aCons (eC .none) (aCons (eC (.bool true)) (aCons (eC (.bool false)) (aCons (eC (.str "a")) (aCons (eTup aNil) (aCons (eNeg (eC (.int 1))) aNil))))))))) (eVar 3)))
  sNil))))))
noncomputable def m__law_bent : Nat → FA
  | 0 => fun _ _ => none
  | n + 1 => fnR 2 4 false (b__law_bent (m__law_bent n))
theorem get_DGn {α : Type} [DecidableEq α] {kf : α → PyData} {vf : α → D} (inj : ∀ a b, kf a = kf b → a = b) {M : List α} {a : α} (hm : a ∉ M) : dGet (DG kf vf M) (kf a) = none := by
  unfold dGet DG
  induction M with
  | nil => rfl
  | cons x M ih =>
    rw [List.map_cons, List.find?_cons]
    have : decide (kf x = kf a) = false := decide_eq_false fun h => hm (by rw [inj _ _ h]; exact List.mem_cons_self)
    simp only [this]
    exact ih fun h => hm (List.mem_cons_of_mem _ h)
structure Bd (n : Nat) (a b : List (List Nat)) : Prop where
  n1 : 1 ≤ n
  n40 : n ≤ 40
  la : a.length = n
  lb : b.length = n
  lt : ∀ r, r ∈ a ∨ r ∈ b → ∀ j ∈ r, j < n
  ll : ∀ r, r ∈ a ∨ r ∈ b → r.length ≤ 40
def mvB (a b : List (List Nat)) (w : Bool) (i : Nat) : List Nat := if w then a.getD i [] else b.getD i []
def encR : Option Nat → PyData
  | some t => .int (t : Nat)
  | none => .none
section
variable {n : Nat} {a b : List (List Nat)}
theorem Bd.side (h : Bd n a b) (w : Bool) : (if w then a else b).length = n := by
  cases w
  · exact h.lb
  · exact h.la
theorem mv_eq (a b : List (List Nat)) (w : Bool) (i : Nat) : mvB a b w i = (if w then a else b).getD i [] := by
  cases w <;> rfl
theorem Bd.mem (h : Bd n a b) {w : Bool} {i : Nat} (hi : i < n) : mvB a b w i ∈ a ∨ mvB a b w i ∈ b := by
  rw [mv_eq, List.getD_eq_getElem?_getD, List.getElem?_eq_getElem (by rw [h.side w]; exact hi), Option.getD_some]
  cases w
  · exact .inr (List.getElem_mem _)
  · exact .inl (List.getElem_mem _)
theorem Bd.ok (h : Bd n a b) : MvOk n (mvB a b) := ⟨fun w i hi j hj => h.lt _ (h.mem hi) j hj⟩
theorem Bd.len (h : Bd n a b) {w : Bool} {i : Nat} (hi : i < n) : (mvB a b w i).length ≤ 40 := h.ll _ (h.mem hi)
theorem Bd.turn (h : Bd n a b) : Bd n b a := ⟨h.n1, h.n40, h.lb, h.la, fun r hr => h.lt r hr.symm, fun r hr => h.ll r hr.symm⟩
end
end N

namespace N
open PySem L2 PyProof.Rows

noncomputable def vRk (n : Nat) (mv : Bool → Nat → List Nat) (p : Bool × Nat) : D := .d (encR (rkB n mv p.1 p.2))
structure MR (n : Nat) (mv : Bool → Nat → List Nat) (r : Nat) (M : List (Bool × Nat)) : Prop where
  nd : M.Nodup
  mem : ∀ p, p ∈ M ↔ p.2 < n ∧ (stg mv r p.1 p.2).isSome = true
section
variable {n : Nat} {mv : Bool → Nat → List Nat} {r : Nat} {M : List (Bool × Nat)}
theorem MR.few (m : MR n mv r M) : M.length ≤ 2 * n := by
  have := nodup_le (m := ptsB n) m.nd fun p hp => mem_ptsB.mpr ((m.mem p).mp hp).1
  rwa [len_ptsB] at this
theorem MR.nil : MR n mv 0 [] := ⟨List.nodup_nil, fun p => by simp [stg]⟩
theorem MR.get {kf : Bool × Nat → PyData} (inj : ∀ p q, kf p = kf q → p = q) (ok : MvOk n mv) (m : MR n mv r M) {w : Bool} {i : Nat} (hi : i < n) : (dGet (DG kf (vRk n mv) M) (kf (w, i))).getD (.d .none) = .d (encR (stg mv r w i)) := by
  cases e : stg mv r w i with
  | none =>
    rw [get_DGn inj fun h => by have := ((m.mem _).mp h).2; rw [e] at this; cases this]
    rfl
  | some t =>
    rw [get_DG inj ((m.mem (w, i)).mpr ⟨hi, by rw [e]; rfl⟩), Option.getD_some]
    unfold vRk
    rw [rk_le ok hi e]
theorem MR.has {kf : Bool × Nat → PyData} (inj : ∀ p q, kf p = kf q → p = q) (m : MR n mv r M) {w : Bool} {i : Nat} (hi : i < n) : dHas (DG kf (vRk n mv) M) (kf (w, i)) = (stg mv r w i).isSome := by
  by_cases hm : (w, i) ∈ M
  · rw [has_DG inj]
    have h1 := ((m.mem _).mp hm).2
    simp only at h1
    rw [h1]
    simpa using hm
  · rw [has_DG inj]
    have h0 : stg mv r w i = none := by
      cases e : stg mv r w i with
      | none => rfl
      | some t => exact absurd ((m.mem (w, i)).mpr ⟨hi, by rw [e]; rfl⟩) hm
    rw [h0]
    simpa using hm
/-- a stage more -/
def newB (n : Nat) (mv : Bool → Nat → List Nat) (r : Nat) (l : List (Bool × Nat)) : List (Bool × Nat) := l.filter fun p => !(stg mv r p.1 p.2).isSome && dueB mv (stg mv r) p.1 p.2
theorem MR.step (m : MR n mv r M) {l : List (Bool × Nat)} (nd : l.Nodup) (hl : ∀ p, p ∈ l ↔ p.2 < n) : MR n mv (r + 1) (M ++ newB n mv r l) := by
  have hn : ∀ p, p ∈ newB n mv r l ↔ p.2 < n ∧ stg mv r p.1 p.2 = none ∧ dueB mv (stg mv r) p.1 p.2 = true := fun p => by
    unfold newB
    rw [List.mem_filter, hl, Bool.and_eq_true, Bool.not_eq_true', Option.isSome_eq_false_iff, Option.isNone_iff_eq_none]
  refine ⟨?_, fun p => ?_⟩
  · rw [List.nodup_append]
    refine ⟨m.nd, nd.sublist List.filter_sublist, fun a ha b hb e => ?_⟩
    subst e
    have h1 := ((m.mem a).mp ha).2
    rw [((hn a).mp hb).2.1] at h1
    cases h1
  · rw [List.mem_append, m.mem, hn, stg_succ]
    cases e : stg mv r p.1 p.2 with
    | some t => simp
    | none =>
      cases hd : dueB mv (stg mv r) p.1 p.2 with
      | true => simp
      | false => simp
end
section
variable {n : Nat} {a b : List (List Nat)}
end
end N

namespace N
open PySem L2 PyProof.Rows

section
variable {n : Nat} {a b : List (List Nat)}
end
end N

namespace N
open PySem L2 PyProof.Rows

section
variable {n : Nat} {a b : List (List Nat)}
end
end N

namespace N
open PySem L2 PyProof.Rows

section
variable {n : Nat} {a b : List (List Nat)}
end
end N

namespace N
open PySem L2 PyProof.Rows

end N

namespace N
open PySem L2 PyProof.Rows

theorem intsOf_nt (ns : List Nat) : intsOf ((nt ns).map D.d) = some (ns.map ci) := by
  rw [← intsOf_ints]
  simp [nt, Function.comp_def]
  rfl
section
variable {n : Nat} {a b : List (List Nat)}
end
section
variable {n : Nat} {a b : List (List Nat)}
end
end N

namespace N
open PySem L2 PyProof.Rows

def bnt (B : Nat) : Nat → PyData → Prop
  | 0, _ => False
  | n + 1, .tuple xs => xs.length ≤ B ∧ ∀ x ∈ xs, bnt B n x
  | _ + 1, .int i => i.natAbs < 2 ^ 256
  | _ + 1, .none => True
  | _ + 1, .bool _ => True
  | _ + 1, _ => False
theorem bnt_wd {B : Nat} : ∀ {k : Nat} {x : PyData}, bnt B k x → wd B k x
  | k + 1, .tuple xs, h => ⟨h.1, fun x hx => bnt_wd (h.2 x hx)⟩
  | k + 1, .int _, _ => trivial
  | k + 1, .str _, h => h.elim
  | k + 1, .none, _ => trivial
  | k + 1, .bool _, _ => trivial
  | k + 1, .list _, h => h.elim
  | k + 1, .dict _, h => h.elim
theorem pickN {l : List PyData} {P : PyData → Prop} (h : ∀ y ∈ l, P y) {d : Nat} (hd : d < l.length) (s : Sto) : ∃ y, P y ∧ itF s (.d (.list l)) (.d (.int (d : Nat))) = some (.d y) :=
  ⟨l[d], h _ (List.getElem_mem hd), itF_tl (atI_nat (List.getElem?_eq_getElem hd))⟩
theorem Rc_pickN {l : List PyData} {P : PyData → Prop} {d : Nat} {s : Sto} {K : D → Prop} (h : ∀ y ∈ l, P y) (hd : d < l.length) (q : ∀ y, P y → K (.d y)) : Rc (itF s (.d (.list l)) (.d (.int (d : Nat)))) K := by
  obtain ⟨y, hy, e⟩ := pickN h hd s
  rw [e, Rc_some]
  exact q y hy
theorem str_intN {j : Int} (h : j.natAbs < 2 ^ 256) (s : Sto) : bStr s [.d (.int j)] = some (.d (.str (toString j)), s) := by
  unfold bStr f1
  simp only []
  rw [if_pos (by have := log2_small h; omega)]
theorem cut_memN {α : Type} {xs : List α} {lo hi : Option Int} {z : α} (h : z ∈ N.cutD xs lo hi) : z ∈ xs := by
  unfold N.cutD at h
  exact List.mem_of_mem_drop (List.mem_of_mem_take h)
theorem lawbent_ok {rest : Sto} (f : Flat rest) {B : Nat} (hB : 2 ≤ B) (hB2 : B ≤ 1000) : ∀ (k K : Nat) (x : PyData) (s : Sto), k ≤ K → BS rest s → bnt B k x → R (m__law_bent K s [.r 1, .d x]) fun d s' => ∃ y, d = .d y ∧ wd (B + 2) (k + 2) y ∧ BS rest s'
  | 0, _, _, _, _, _, h => h.elim
  | k + 1, 0, _, _, h, _, _ => by omega
  | k + 1, K + 1, x, s, hk, t, hx => by
    have fin : ∀ {y : PyData} {s' : Sto}, wd (B + 2) (k + 3) y → BS rest s' → R (ret false s (.d y) s') fun d s' => ∃ y, d = .d y ∧ wd (B + 2) (k + 1 + 2) y ∧ BS rest s' := fun {y s'} h1 h2 => by
      rw [R_retd, trim_wf' (by rw [h2.len, t.len]) (h2.wf f)]
      exact ⟨y, rfl, h1, h2⟩
    unfold m__law_bent b__law_bent
    rw [R_fn]
    refine ⟨rfl, ?_⟩
    simp only [List.map_cons, List.map_nil, List.cons_append, List.nil_append, List.length_cons, List.length_nil, Nat.reduceSub, Nat.reduceAdd, List.replicate_succ, List.replicate_zero]
    cases x with
    | tuple xs =>
      have hxl : xs.length ≤ B := hx.1
      have wi : ∀ z ∈ xs, wd (B + 2) k z := fun z hz => wd_up (by omega) (Nat.le_refl _) (bnt_wd (hx.2 z hz))
      have wi2 : ∀ z ∈ xs, wd (B + 2) (k + 2) z := fun z hz => wd_up (Nat.le_refl _) (by omega) (wi z hz)
      rw [Rs_seq]
      refine Rs.imp (Q := fun fl e2 s2 => (fl = .nx ∧ (∃ o2, e2 = [some (.r 1), some (.d (.tuple xs)), o2, none]) ∧ BS rest s2) ∨ (∃ y, fl = .rt (.d y) ∧ wd (B + 2) (k + 3) y ∧ BS rest s2)) ?_ ?_
      · rw [Rs_if]
        simp only [Rs_nil, R_call, R_cons, R_nil, R_Var, R_C, R_bin, R_cmp, R_tcmp, R_tOr, R_tAnd, R_tNot, R_tVal, R_tTrue, R_ite, R_eAnd, R_eOr, R_eNot, R_neg, R_tup, R_isi, R_some, Rc_some, N.v_eq, N.v_ne, N.v_lt, N.v_le, N.v_gt, N.v_ge, N.v_add, N.v_sub, N.v_iadd, N.v_xor, N.v_int, N.tru_b, N.pd_d, N.data_nil, N.data_cons, N.len_t, N.v_tupT, N.g_name, N.isNone_n, N.isNone_t, N.isNone_i, N.v_isN, N.v_isNn, N.v_eqB, N.v_neB, List.set_cons_succ, List.set_cons_zero, List.getElem?_cons_succ, List.getElem?_cons_zero, Bool.not_true, Bool.not_false, Bool.false_eq_true, Bool.true_eq_false, eq_self, true_implies, false_implies, true_and, and_true, decide_true, decide_false, Int.zero_add, N.R_sl, N.R_it, R_oNone, R_oSome, wipeN, N.R_lst, N.R_mkF, N.R_mkT, N.R_meth, N.v_addT, Ri_rng1, Ri_rng2, Ri_seq, show TyT.tup.of (.tuple xs) = true from rfl]
        refine ⟨fun h => ?_, fun h => ?_⟩
        · have h := of_decide_eq_true h
          refine R_draw t (m := 5) (by decide) (by decide) fun d5 s1 hd5 t1 => ?_
          simp only [Rs_nil, R_call, R_cons, R_nil, R_Var, R_C, R_bin, R_cmp, R_tcmp, R_tOr, R_tAnd, R_tNot, R_tVal, R_tTrue, R_ite, R_eAnd, R_eOr, R_eNot, R_neg, R_tup, R_isi, R_some, Rc_some, N.v_eq, N.v_ne, N.v_lt, N.v_le, N.v_gt, N.v_ge, N.v_add, N.v_sub, N.v_iadd, N.v_xor, N.v_int, N.tru_b, N.pd_d, N.data_nil, N.data_cons, N.len_t, N.v_tupT, N.g_name, N.isNone_n, N.isNone_t, N.isNone_i, N.v_isN, N.v_isNn, N.v_eqB, N.v_neB, List.set_cons_succ, List.set_cons_zero, List.getElem?_cons_succ, List.getElem?_cons_zero, Bool.not_true, Bool.not_false, Bool.false_eq_true, Bool.true_eq_false, eq_self, true_implies, false_implies, true_and, and_true, decide_true, decide_false, Int.zero_add, N.R_sl, N.R_it, R_oNone, R_oSome, wipeN, N.R_lst, N.R_mkF, N.R_mkT, N.R_meth, N.v_addT, Ri_rng1, Ri_rng2, Ri_seq]
          refine ⟨fun h5 => ?_, fun h5 => .inl ⟨⟨none, rfl⟩, t1⟩⟩
          rw [Rs_seq, Rs_set]
          simp only [Rs_nil, R_call, R_cons, R_nil, R_Var, R_C, R_bin, R_cmp, R_tcmp, R_tOr, R_tAnd, R_tNot, R_tVal, R_tTrue, R_ite, R_eAnd, R_eOr, R_eNot, R_neg, R_tup, R_isi, R_some, Rc_some, N.v_eq, N.v_ne, N.v_lt, N.v_le, N.v_gt, N.v_ge, N.v_add, N.v_sub, N.v_iadd, N.v_xor, N.v_int, N.tru_b, N.pd_d, N.data_nil, N.data_cons, N.len_t, N.v_tupT, N.g_name, N.isNone_n, N.isNone_t, N.isNone_i, N.v_isN, N.v_isNn, N.v_eqB, N.v_neB, List.set_cons_succ, List.set_cons_zero, List.getElem?_cons_succ, List.getElem?_cons_zero, Bool.not_true, Bool.not_false, Bool.false_eq_true, Bool.true_eq_false, eq_self, true_implies, false_implies, true_and, and_true, decide_true, decide_false, Int.zero_add, N.R_sl, N.R_it, R_oNone, R_oSome, wipeN, N.R_lst, N.R_mkF, N.R_mkT, N.R_meth, N.v_addT, Ri_rng1, Ri_rng2, Ri_seq]
          refine R_draw t1 (m := xs.length) (by omega) (Nat.lt_of_le_of_lt (show xs.length ≤ 1000 by omega) (by decide)) fun a s2 ha t2 => ?_
          rw [thn_nx, Rs_seq, Rs_ret]
          have it : itF s2 (.d (.tuple xs)) (.d (.int (a : Nat))) = some (.d xs[a]) := itF_t (atI_nat (List.getElem?_eq_getElem ha))
          have c1 : N.cutD xs none (some (a : Int)) = xs.take a := cut_lo (by omega)
          have c2 : N.cutD xs (some ((a : Int) + 1)) none = xs.drop (a + 1) := by
            have := cut_hi (xs := xs) (i := a + 1) (by omega)
            exact_mod_cast this
          simp only [Rs_nil, R_call, R_cons, R_nil, R_Var, R_C, R_bin, R_cmp, R_tcmp, R_tOr, R_tAnd, R_tNot, R_tVal, R_tTrue, R_ite, R_eAnd, R_eOr, R_eNot, R_neg, R_tup, R_isi, R_some, Rc_some, N.v_eq, N.v_ne, N.v_lt, N.v_le, N.v_gt, N.v_ge, N.v_add, N.v_sub, N.v_iadd, N.v_xor, N.v_int, N.tru_b, N.pd_d, N.data_nil, N.data_cons, N.len_t, N.v_tupT, N.g_name, N.isNone_n, N.isNone_t, N.isNone_i, N.v_isN, N.v_isNn, N.v_eqB, N.v_neB, List.set_cons_succ, List.set_cons_zero, List.getElem?_cons_succ, List.getElem?_cons_zero, Bool.not_true, Bool.not_false, Bool.false_eq_true, Bool.true_eq_false, eq_self, true_implies, false_implies, true_and, and_true, decide_true, decide_false, Int.zero_add, N.R_sl, N.R_it, R_oNone, R_oSome, wipeN, N.R_lst, N.R_mkF, N.R_mkT, N.R_meth, N.v_addT, Ri_rng1, Ri_rng2, Ri_seq, it, c1, c2]
          refine R.imp (lawbent_ok f hB hB2 k K xs[a] s2 (by omega) t2 (hx.2 _ (List.getElem_mem ha))) fun d s4 hh => ?_
          obtain ⟨y, rfl, hy, t4⟩ := hh
          simp only [Rs_nil, R_call, R_cons, R_nil, R_Var, R_C, R_bin, R_cmp, R_tcmp, R_tOr, R_tAnd, R_tNot, R_tVal, R_tTrue, R_ite, R_eAnd, R_eOr, R_eNot, R_neg, R_tup, R_isi, R_some, Rc_some, N.v_eq, N.v_ne, N.v_lt, N.v_le, N.v_gt, N.v_ge, N.v_add, N.v_sub, N.v_iadd, N.v_xor, N.v_int, N.tru_b, N.pd_d, N.data_nil, N.data_cons, N.len_t, N.v_tupT, N.g_name, N.isNone_n, N.isNone_t, N.isNone_i, N.v_isN, N.v_isNn, N.v_eqB, N.v_neB, List.set_cons_succ, List.set_cons_zero, List.getElem?_cons_succ, List.getElem?_cons_zero, Bool.not_true, Bool.not_false, Bool.false_eq_true, Bool.true_eq_false, eq_self, true_implies, false_implies, true_and, and_true, decide_true, decide_false, Int.zero_add, N.R_sl, N.R_it, R_oNone, R_oSome, wipeN, N.R_lst, N.R_mkF, N.R_mkT, N.R_meth, N.v_addT, Ri_rng1, Ri_rng2, Ri_seq, c2]
          refine ⟨by simp [lim], by simp [lim]; omega, by simp [lim]; omega, ?_⟩
          rw [thn_rt]
          refine .inr ⟨_, rfl, ⟨by simp; omega, fun z hz => ?_⟩, t4⟩
          rcases List.mem_append.mp hz with hz | hz
          · rcases List.mem_append.mp hz with hz | hz
            · exact wi2 z (List.mem_of_mem_take hz)
            · rw [List.mem_singleton.mp hz]
              exact hy
          · exact wi2 z (List.mem_of_mem_drop hz)
        · exact .inl ⟨⟨none, rfl⟩, t⟩
      · rintro fl e2 s2 (⟨rfl, ⟨o2, rfl⟩, t2⟩ | ⟨y, rfl, hy, t2⟩)
        · rw [thn_nx, Rs_seq, Rs_set]
          simp only [Rs_nil, R_call, R_cons, R_nil, R_Var, R_C, R_bin, R_cmp, R_tcmp, R_tOr, R_tAnd, R_tNot, R_tVal, R_tTrue, R_ite, R_eAnd, R_eOr, R_eNot, R_neg, R_tup, R_isi, R_some, Rc_some, N.v_eq, N.v_ne, N.v_lt, N.v_le, N.v_gt, N.v_ge, N.v_add, N.v_sub, N.v_iadd, N.v_xor, N.v_int, N.tru_b, N.pd_d, N.data_nil, N.data_cons, N.len_t, N.v_tupT, N.g_name, N.isNone_n, N.isNone_t, N.isNone_i, N.v_isN, N.v_isNn, N.v_eqB, N.v_neB, List.set_cons_succ, List.set_cons_zero, List.getElem?_cons_succ, List.getElem?_cons_zero, Bool.not_true, Bool.not_false, Bool.false_eq_true, Bool.true_eq_false, eq_self, true_implies, false_implies, true_and, and_true, decide_true, decide_false, Int.zero_add, N.R_sl, N.R_it, R_oNone, R_oSome, wipeN, N.R_lst, N.R_mkF, N.R_mkT, N.R_meth, N.v_addT, Ri_rng1, Ri_rng2, Ri_seq]
          refine R_draw t2 (m := 8) (by decide) (by decide) fun d s3 hd t3 => ?_
          rw [thn_nx, Rs_seq, Rs_if]
          simp only [Rs_nil, R_call, R_cons, R_nil, R_Var, R_C, R_bin, R_cmp, R_tcmp, R_tOr, R_tAnd, R_tNot, R_tVal, R_tTrue, R_ite, R_eAnd, R_eOr, R_eNot, R_neg, R_tup, R_isi, R_some, Rc_some, N.v_eq, N.v_ne, N.v_lt, N.v_le, N.v_gt, N.v_ge, N.v_add, N.v_sub, N.v_iadd, N.v_xor, N.v_int, N.tru_b, N.pd_d, N.data_nil, N.data_cons, N.len_t, N.v_tupT, N.g_name, N.isNone_n, N.isNone_t, N.isNone_i, N.v_isN, N.v_isNn, N.v_eqB, N.v_neB, List.set_cons_succ, List.set_cons_zero, List.getElem?_cons_succ, List.getElem?_cons_zero, Bool.not_true, Bool.not_false, Bool.false_eq_true, Bool.true_eq_false, eq_self, true_implies, false_implies, true_and, and_true, decide_true, decide_false, Int.zero_add, N.R_sl, N.R_it, R_oNone, R_oSome, wipeN, N.R_lst, N.R_mkF, N.R_mkT, N.R_meth, N.v_addT, Ri_rng1, Ri_rng2, Ri_seq, show TyT.tup.of (.tuple xs) = true from rfl]
          rw [Rs_seq, Rs_ret]
          simp only [Rs_nil, R_call, R_cons, R_nil, R_Var, R_C, R_bin, R_cmp, R_tcmp, R_tOr, R_tAnd, R_tNot, R_tVal, R_tTrue, R_ite, R_eAnd, R_eOr, R_eNot, R_neg, R_tup, R_isi, R_some, Rc_some, N.v_eq, N.v_ne, N.v_lt, N.v_le, N.v_gt, N.v_ge, N.v_add, N.v_sub, N.v_iadd, N.v_xor, N.v_int, N.tru_b, N.pd_d, N.data_nil, N.data_cons, N.len_t, N.v_tupT, N.g_name, N.isNone_n, N.isNone_t, N.isNone_i, N.v_isN, N.v_isNn, N.v_eqB, N.v_neB, List.set_cons_succ, List.set_cons_zero, List.getElem?_cons_succ, List.getElem?_cons_zero, Bool.not_true, Bool.not_false, Bool.false_eq_true, Bool.true_eq_false, eq_self, true_implies, false_implies, true_and, and_true, decide_true, decide_false, Int.zero_add, N.R_sl, N.R_it, R_oNone, R_oSome, wipeN, N.R_lst, N.R_mkF, N.R_mkT, N.R_meth, N.v_addT, Ri_rng1, Ri_rng2, Ri_seq, R_rev]
          have k1 := cutD_len xs none (some 1)
          have k2 := cutD_len xs (some 1) none
          have k3 := cutD_len xs none (some (-1))
          have k4 : (N.cutD xs none (some 1)).length ≤ 1 := by
            unfold N.cutD
            have e : HT.sIx xs.length xs.length (some 1) = min 1 xs.length := by
              unfold HT.sIx
              simp only []
              first | (rw [if_neg (by omega)]; omega) | omega
            rw [HT.sIx_none, e, List.length_take]
            omega
          refine ⟨by simp only [lim]; omega, by simp [lim], by simp only [lim, List.length_cons, List.length_nil]; omega, by simp only [lim]; omega, by simp [lim], ?_⟩
          refine Rc_pickN (P := wd (B + 2) (k + 3)) (fun y hy => ?_) hd fun y hy => ?_
          · have ap : ∀ ys : List PyData, ys.length ≤ B + 2 → (∀ z ∈ ys, wd (B + 2) (k + 2) z) → wd (B + 2) (k + 3) (.tuple ys) := fun ys h1 h2 => ⟨h1, h2⟩
            have wc : ∀ {lo hi : Option Int}, ∀ z ∈ N.cutD xs lo hi, wd (B + 2) (k + 2) z := fun z hz => wi2 z (cut_memN hz)
            simp only [List.mem_cons, List.not_mem_nil, or_false] at hy
            rcases hy with rfl | rfl | rfl | rfl | rfl | rfl | rfl | rfl
            · exact ap _ (by rw [List.length_append]; omega) fun z hz => (List.mem_append.mp hz).elim (wi2 z) (wc z)
            · exact ap _ (by omega) wc
            · exact ap _ (by rw [List.length_reverse]; omega) fun z hz => wi2 z (List.mem_reverse.mp hz)
            · exact ap _ (by simp; omega) fun z hz => (List.mem_append.mp hz).elim (wi2 z) fun h => by rw [List.mem_singleton.mp h]; trivial
            · exact ap _ (by rw [List.length_append]; omega) fun z hz => (List.mem_append.mp hz).elim (wc z) (wi2 z)
            · exact ap _ (by omega) wc
            · trivial
            · exact ap _ (by omega) wc
          · rw [thn_rt, thn_rt]
            exact fin hy t3
        · rw [thn_rt]
          exact fin hy t2
    | int j =>
      rw [Rs_seq, Rs_if]
      simp only [Rs_nil, R_call, R_cons, R_nil, R_Var, R_C, R_bin, R_cmp, R_tcmp, R_tOr, R_tAnd, R_tNot, R_tVal, R_tTrue, R_ite, R_eAnd, R_eOr, R_eNot, R_neg, R_tup, R_isi, R_some, Rc_some, N.v_eq, N.v_ne, N.v_lt, N.v_le, N.v_gt, N.v_ge, N.v_add, N.v_sub, N.v_iadd, N.v_xor, N.v_int, N.tru_b, N.pd_d, N.data_nil, N.data_cons, N.len_t, N.v_tupT, N.g_name, N.isNone_n, N.isNone_t, N.isNone_i, N.v_isN, N.v_isNn, N.v_eqB, N.v_neB, List.set_cons_succ, List.set_cons_zero, List.getElem?_cons_succ, List.getElem?_cons_zero, Bool.not_true, Bool.not_false, Bool.false_eq_true, Bool.true_eq_false, eq_self, true_implies, false_implies, true_and, and_true, decide_true, decide_false, Int.zero_add, N.R_sl, N.R_it, R_oNone, R_oSome, wipeN, N.R_lst, N.R_mkF, N.R_mkT, N.R_meth, N.v_addT, Ri_rng1, Ri_rng2, Ri_seq, show TyT.tup.of (.int j) = false from rfl]
      rw [thn_nx, Rs_seq, Rs_set]
      simp only [Rs_nil, R_call, R_cons, R_nil, R_Var, R_C, R_bin, R_cmp, R_tcmp, R_tOr, R_tAnd, R_tNot, R_tVal, R_tTrue, R_ite, R_eAnd, R_eOr, R_eNot, R_neg, R_tup, R_isi, R_some, Rc_some, N.v_eq, N.v_ne, N.v_lt, N.v_le, N.v_gt, N.v_ge, N.v_add, N.v_sub, N.v_iadd, N.v_xor, N.v_int, N.tru_b, N.pd_d, N.data_nil, N.data_cons, N.len_t, N.v_tupT, N.g_name, N.isNone_n, N.isNone_t, N.isNone_i, N.v_isN, N.v_isNn, N.v_eqB, N.v_neB, List.set_cons_succ, List.set_cons_zero, List.getElem?_cons_succ, List.getElem?_cons_zero, Bool.not_true, Bool.not_false, Bool.false_eq_true, Bool.true_eq_false, eq_self, true_implies, false_implies, true_and, and_true, decide_true, decide_false, Int.zero_add, N.R_sl, N.R_it, R_oNone, R_oSome, wipeN, N.R_lst, N.R_mkF, N.R_mkT, N.R_meth, N.v_addT, Ri_rng1, Ri_rng2, Ri_seq]
      refine R_draw t (m := 8) (by decide) (by decide) fun d s1 hd t1 => ?_
      rw [thn_nx, Rs_seq, Rs_if]
      simp only [Rs_nil, R_call, R_cons, R_nil, R_Var, R_C, R_bin, R_cmp, R_tcmp, R_tOr, R_tAnd, R_tNot, R_tVal, R_tTrue, R_ite, R_eAnd, R_eOr, R_eNot, R_neg, R_tup, R_isi, R_some, Rc_some, N.v_eq, N.v_ne, N.v_lt, N.v_le, N.v_gt, N.v_ge, N.v_add, N.v_sub, N.v_iadd, N.v_xor, N.v_int, N.tru_b, N.pd_d, N.data_nil, N.data_cons, N.len_t, N.v_tupT, N.g_name, N.isNone_n, N.isNone_t, N.isNone_i, N.v_isN, N.v_isNn, N.v_eqB, N.v_neB, List.set_cons_succ, List.set_cons_zero, List.getElem?_cons_succ, List.getElem?_cons_zero, Bool.not_true, Bool.not_false, Bool.false_eq_true, Bool.true_eq_false, eq_self, true_implies, false_implies, true_and, and_true, decide_true, decide_false, Int.zero_add, N.R_sl, N.R_it, R_oNone, R_oSome, wipeN, N.R_lst, N.R_mkF, N.R_mkT, N.R_meth, N.v_addT, Ri_rng1, Ri_rng2, Ri_seq, show TyT.tup.of (.int j) = false from rfl]
      rw [thn_nx, Rs_seq, Rs_if]
      simp only [Rs_nil, R_call, R_cons, R_nil, R_Var, R_C, R_bin, R_cmp, R_tcmp, R_tOr, R_tAnd, R_tNot, R_tVal, R_tTrue, R_ite, R_eAnd, R_eOr, R_eNot, R_neg, R_tup, R_isi, R_some, Rc_some, N.v_eq, N.v_ne, N.v_lt, N.v_le, N.v_gt, N.v_ge, N.v_add, N.v_sub, N.v_iadd, N.v_xor, N.v_int, N.tru_b, N.pd_d, N.data_nil, N.data_cons, N.len_t, N.v_tupT, N.g_name, N.isNone_n, N.isNone_t, N.isNone_i, N.v_isN, N.v_isNn, N.v_eqB, N.v_neB, List.set_cons_succ, List.set_cons_zero, List.getElem?_cons_succ, List.getElem?_cons_zero, Bool.not_true, Bool.not_false, Bool.false_eq_true, Bool.true_eq_false, eq_self, true_implies, false_implies, true_and, and_true, decide_true, decide_false, Int.zero_add, N.R_sl, N.R_it, R_oNone, R_oSome, wipeN, N.R_lst, N.R_mkF, N.R_mkT, N.R_meth, N.v_addT, Ri_rng1, Ri_rng2, Ri_seq, show TyT.int.of (.int j) = true from rfl, show TyT.bl.of (.int j) = false from rfl]
      rw [Rs_seq, Rs_ret]
      simp only [Rs_nil, R_call, R_cons, R_nil, R_Var, R_C, R_bin, R_cmp, R_tcmp, R_tOr, R_tAnd, R_tNot, R_tVal, R_tTrue, R_ite, R_eAnd, R_eOr, R_eNot, R_neg, R_tup, R_isi, R_some, Rc_some, N.v_eq, N.v_ne, N.v_lt, N.v_le, N.v_gt, N.v_ge, N.v_add, N.v_sub, N.v_iadd, N.v_xor, N.v_int, N.tru_b, N.pd_d, N.data_nil, N.data_cons, N.len_t, N.v_tupT, N.g_name, N.isNone_n, N.isNone_t, N.isNone_i, N.v_isN, N.v_isNn, N.v_eqB, N.v_neB, List.set_cons_succ, List.set_cons_zero, List.getElem?_cons_succ, List.getElem?_cons_zero, Bool.not_true, Bool.not_false, Bool.false_eq_true, Bool.true_eq_false, eq_self, true_implies, false_implies, true_and, and_true, decide_true, decide_false, Int.zero_add, N.R_sl, N.R_it, R_oNone, R_oSome, wipeN, N.R_lst, N.R_mkF, N.R_mkT, N.R_meth, N.v_addT, Ri_rng1, Ri_rng2, Ri_seq, str_intN hx]
      refine ⟨by simp [lim], by simp [lim], ?_⟩
      refine Rc_pickN (P := wd (B + 2) (k + 3)) (fun y hy => ?_) hd fun y hy => ?_
      · simp only [List.mem_cons, List.not_mem_nil, or_false] at hy
        rcases hy with rfl | rfl | rfl | rfl | rfl | rfl | rfl | rfl
        all_goals simp [wd]
      · rw [thn_rt, thn_rt]
        exact fin hy t1
    | str z => exact hx.elim
    | none =>
      rw [Rs_seq, Rs_if]
      simp only [Rs_nil, R_call, R_cons, R_nil, R_Var, R_C, R_bin, R_cmp, R_tcmp, R_tOr, R_tAnd, R_tNot, R_tVal, R_tTrue, R_ite, R_eAnd, R_eOr, R_eNot, R_neg, R_tup, R_isi, R_some, Rc_some, N.v_eq, N.v_ne, N.v_lt, N.v_le, N.v_gt, N.v_ge, N.v_add, N.v_sub, N.v_iadd, N.v_xor, N.v_int, N.tru_b, N.pd_d, N.data_nil, N.data_cons, N.len_t, N.v_tupT, N.g_name, N.isNone_n, N.isNone_t, N.isNone_i, N.v_isN, N.v_isNn, N.v_eqB, N.v_neB, List.set_cons_succ, List.set_cons_zero, List.getElem?_cons_succ, List.getElem?_cons_zero, Bool.not_true, Bool.not_false, Bool.false_eq_true, Bool.true_eq_false, eq_self, true_implies, false_implies, true_and, and_true, decide_true, decide_false, Int.zero_add, N.R_sl, N.R_it, R_oNone, R_oSome, wipeN, N.R_lst, N.R_mkF, N.R_mkT, N.R_meth, N.v_addT, Ri_rng1, Ri_rng2, Ri_seq, show TyT.tup.of .none = false from rfl]
      rw [thn_nx, Rs_seq, Rs_set]
      simp only [Rs_nil, R_call, R_cons, R_nil, R_Var, R_C, R_bin, R_cmp, R_tcmp, R_tOr, R_tAnd, R_tNot, R_tVal, R_tTrue, R_ite, R_eAnd, R_eOr, R_eNot, R_neg, R_tup, R_isi, R_some, Rc_some, N.v_eq, N.v_ne, N.v_lt, N.v_le, N.v_gt, N.v_ge, N.v_add, N.v_sub, N.v_iadd, N.v_xor, N.v_int, N.tru_b, N.pd_d, N.data_nil, N.data_cons, N.len_t, N.v_tupT, N.g_name, N.isNone_n, N.isNone_t, N.isNone_i, N.v_isN, N.v_isNn, N.v_eqB, N.v_neB, List.set_cons_succ, List.set_cons_zero, List.getElem?_cons_succ, List.getElem?_cons_zero, Bool.not_true, Bool.not_false, Bool.false_eq_true, Bool.true_eq_false, eq_self, true_implies, false_implies, true_and, and_true, decide_true, decide_false, Int.zero_add, N.R_sl, N.R_it, R_oNone, R_oSome, wipeN, N.R_lst, N.R_mkF, N.R_mkT, N.R_meth, N.v_addT, Ri_rng1, Ri_rng2, Ri_seq]
      refine R_draw t (m := 8) (by decide) (by decide) fun d s1 hd t1 => ?_
      rw [thn_nx, Rs_seq, Rs_if]
      simp only [Rs_nil, R_call, R_cons, R_nil, R_Var, R_C, R_bin, R_cmp, R_tcmp, R_tOr, R_tAnd, R_tNot, R_tVal, R_tTrue, R_ite, R_eAnd, R_eOr, R_eNot, R_neg, R_tup, R_isi, R_some, Rc_some, N.v_eq, N.v_ne, N.v_lt, N.v_le, N.v_gt, N.v_ge, N.v_add, N.v_sub, N.v_iadd, N.v_xor, N.v_int, N.tru_b, N.pd_d, N.data_nil, N.data_cons, N.len_t, N.v_tupT, N.g_name, N.isNone_n, N.isNone_t, N.isNone_i, N.v_isN, N.v_isNn, N.v_eqB, N.v_neB, List.set_cons_succ, List.set_cons_zero, List.getElem?_cons_succ, List.getElem?_cons_zero, Bool.not_true, Bool.not_false, Bool.false_eq_true, Bool.true_eq_false, eq_self, true_implies, false_implies, true_and, and_true, decide_true, decide_false, Int.zero_add, N.R_sl, N.R_it, R_oNone, R_oSome, wipeN, N.R_lst, N.R_mkF, N.R_mkT, N.R_meth, N.v_addT, Ri_rng1, Ri_rng2, Ri_seq, show TyT.tup.of .none = false from rfl]
      rw [thn_nx, Rs_seq, Rs_if]
      simp only [Rs_nil, R_call, R_cons, R_nil, R_Var, R_C, R_bin, R_cmp, R_tcmp, R_tOr, R_tAnd, R_tNot, R_tVal, R_tTrue, R_ite, R_eAnd, R_eOr, R_eNot, R_neg, R_tup, R_isi, R_some, Rc_some, N.v_eq, N.v_ne, N.v_lt, N.v_le, N.v_gt, N.v_ge, N.v_add, N.v_sub, N.v_iadd, N.v_xor, N.v_int, N.tru_b, N.pd_d, N.data_nil, N.data_cons, N.len_t, N.v_tupT, N.g_name, N.isNone_n, N.isNone_t, N.isNone_i, N.v_isN, N.v_isNn, N.v_eqB, N.v_neB, List.set_cons_succ, List.set_cons_zero, List.getElem?_cons_succ, List.getElem?_cons_zero, Bool.not_true, Bool.not_false, Bool.false_eq_true, Bool.true_eq_false, eq_self, true_implies, false_implies, true_and, and_true, decide_true, decide_false, Int.zero_add, N.R_sl, N.R_it, R_oNone, R_oSome, wipeN, N.R_lst, N.R_mkF, N.R_mkT, N.R_meth, N.v_addT, Ri_rng1, Ri_rng2, Ri_seq, show TyT.int.of .none = false from rfl, show TyT.bl.of .none = false from rfl]
      rw [thn_nx, Rs_seq, Rs_if]
      simp only [Rs_nil, R_call, R_cons, R_nil, R_Var, R_C, R_bin, R_cmp, R_tcmp, R_tOr, R_tAnd, R_tNot, R_tVal, R_tTrue, R_ite, R_eAnd, R_eOr, R_eNot, R_neg, R_tup, R_isi, R_some, Rc_some, N.v_eq, N.v_ne, N.v_lt, N.v_le, N.v_gt, N.v_ge, N.v_add, N.v_sub, N.v_iadd, N.v_xor, N.v_int, N.tru_b, N.pd_d, N.data_nil, N.data_cons, N.len_t, N.v_tupT, N.g_name, N.isNone_n, N.isNone_t, N.isNone_i, N.v_isN, N.v_isNn, N.v_eqB, N.v_neB, List.set_cons_succ, List.set_cons_zero, List.getElem?_cons_succ, List.getElem?_cons_zero, Bool.not_true, Bool.not_false, Bool.false_eq_true, Bool.true_eq_false, eq_self, true_implies, false_implies, true_and, and_true, decide_true, decide_false, Int.zero_add, N.R_sl, N.R_it, R_oNone, R_oSome, wipeN, N.R_lst, N.R_mkF, N.R_mkT, N.R_meth, N.v_addT, Ri_rng1, Ri_rng2, Ri_seq, show TyT.str.of .none = false from rfl]
      rw [thn_nx, Rs_seq, Rs_ret]
      simp only [Rs_nil, R_call, R_cons, R_nil, R_Var, R_C, R_bin, R_cmp, R_tcmp, R_tOr, R_tAnd, R_tNot, R_tVal, R_tTrue, R_ite, R_eAnd, R_eOr, R_eNot, R_neg, R_tup, R_isi, R_some, Rc_some, N.v_eq, N.v_ne, N.v_lt, N.v_le, N.v_gt, N.v_ge, N.v_add, N.v_sub, N.v_iadd, N.v_xor, N.v_int, N.tru_b, N.pd_d, N.data_nil, N.data_cons, N.len_t, N.v_tupT, N.g_name, N.isNone_n, N.isNone_t, N.isNone_i, N.v_isN, N.v_isNn, N.v_eqB, N.v_neB, List.set_cons_succ, List.set_cons_zero, List.getElem?_cons_succ, List.getElem?_cons_zero, Bool.not_true, Bool.not_false, Bool.false_eq_true, Bool.true_eq_false, eq_self, true_implies, false_implies, true_and, and_true, decide_true, decide_false, Int.zero_add, N.R_sl, N.R_it, R_oNone, R_oSome, wipeN, N.R_lst, N.R_mkF, N.R_mkT, N.R_meth, N.v_addT, Ri_rng1, Ri_rng2, Ri_seq]
      refine ⟨by simp [lim], by simp [lim], ?_⟩
      refine Rc_pickN (P := wd (B + 2) (k + 3)) (fun y hy => ?_) hd fun y hy => ?_
      · simp only [List.mem_cons, List.not_mem_nil, or_false] at hy
        rcases hy with rfl | rfl | rfl | rfl | rfl | rfl | rfl | rfl
        all_goals simp [wd]
      · rw [thn_rt]
        exact fin hy t1
    | bool z =>
      rw [Rs_seq, Rs_if]
      simp only [Rs_nil, R_call, R_cons, R_nil, R_Var, R_C, R_bin, R_cmp, R_tcmp, R_tOr, R_tAnd, R_tNot, R_tVal, R_tTrue, R_ite, R_eAnd, R_eOr, R_eNot, R_neg, R_tup, R_isi, R_some, Rc_some, N.v_eq, N.v_ne, N.v_lt, N.v_le, N.v_gt, N.v_ge, N.v_add, N.v_sub, N.v_iadd, N.v_xor, N.v_int, N.tru_b, N.pd_d, N.data_nil, N.data_cons, N.len_t, N.v_tupT, N.g_name, N.isNone_n, N.isNone_t, N.isNone_i, N.v_isN, N.v_isNn, N.v_eqB, N.v_neB, List.set_cons_succ, List.set_cons_zero, List.getElem?_cons_succ, List.getElem?_cons_zero, Bool.not_true, Bool.not_false, Bool.false_eq_true, Bool.true_eq_false, eq_self, true_implies, false_implies, true_and, and_true, decide_true, decide_false, Int.zero_add, N.R_sl, N.R_it, R_oNone, R_oSome, wipeN, N.R_lst, N.R_mkF, N.R_mkT, N.R_meth, N.v_addT, Ri_rng1, Ri_rng2, Ri_seq, show TyT.tup.of (.bool z) = false from rfl]
      rw [thn_nx, Rs_seq, Rs_set]
      simp only [Rs_nil, R_call, R_cons, R_nil, R_Var, R_C, R_bin, R_cmp, R_tcmp, R_tOr, R_tAnd, R_tNot, R_tVal, R_tTrue, R_ite, R_eAnd, R_eOr, R_eNot, R_neg, R_tup, R_isi, R_some, Rc_some, N.v_eq, N.v_ne, N.v_lt, N.v_le, N.v_gt, N.v_ge, N.v_add, N.v_sub, N.v_iadd, N.v_xor, N.v_int, N.tru_b, N.pd_d, N.data_nil, N.data_cons, N.len_t, N.v_tupT, N.g_name, N.isNone_n, N.isNone_t, N.isNone_i, N.v_isN, N.v_isNn, N.v_eqB, N.v_neB, List.set_cons_succ, List.set_cons_zero, List.getElem?_cons_succ, List.getElem?_cons_zero, Bool.not_true, Bool.not_false, Bool.false_eq_true, Bool.true_eq_false, eq_self, true_implies, false_implies, true_and, and_true, decide_true, decide_false, Int.zero_add, N.R_sl, N.R_it, R_oNone, R_oSome, wipeN, N.R_lst, N.R_mkF, N.R_mkT, N.R_meth, N.v_addT, Ri_rng1, Ri_rng2, Ri_seq]
      refine R_draw t (m := 8) (by decide) (by decide) fun d s1 hd t1 => ?_
      rw [thn_nx, Rs_seq, Rs_if]
      simp only [Rs_nil, R_call, R_cons, R_nil, R_Var, R_C, R_bin, R_cmp, R_tcmp, R_tOr, R_tAnd, R_tNot, R_tVal, R_tTrue, R_ite, R_eAnd, R_eOr, R_eNot, R_neg, R_tup, R_isi, R_some, Rc_some, N.v_eq, N.v_ne, N.v_lt, N.v_le, N.v_gt, N.v_ge, N.v_add, N.v_sub, N.v_iadd, N.v_xor, N.v_int, N.tru_b, N.pd_d, N.data_nil, N.data_cons, N.len_t, N.v_tupT, N.g_name, N.isNone_n, N.isNone_t, N.isNone_i, N.v_isN, N.v_isNn, N.v_eqB, N.v_neB, List.set_cons_succ, List.set_cons_zero, List.getElem?_cons_succ, List.getElem?_cons_zero, Bool.not_true, Bool.not_false, Bool.false_eq_true, Bool.true_eq_false, eq_self, true_implies, false_implies, true_and, and_true, decide_true, decide_false, Int.zero_add, N.R_sl, N.R_it, R_oNone, R_oSome, wipeN, N.R_lst, N.R_mkF, N.R_mkT, N.R_meth, N.v_addT, Ri_rng1, Ri_rng2, Ri_seq, show TyT.tup.of (.bool z) = false from rfl]
      rw [thn_nx, Rs_seq, Rs_if]
      simp only [Rs_nil, R_call, R_cons, R_nil, R_Var, R_C, R_bin, R_cmp, R_tcmp, R_tOr, R_tAnd, R_tNot, R_tVal, R_tTrue, R_ite, R_eAnd, R_eOr, R_eNot, R_neg, R_tup, R_isi, R_some, Rc_some, N.v_eq, N.v_ne, N.v_lt, N.v_le, N.v_gt, N.v_ge, N.v_add, N.v_sub, N.v_iadd, N.v_xor, N.v_int, N.tru_b, N.pd_d, N.data_nil, N.data_cons, N.len_t, N.v_tupT, N.g_name, N.isNone_n, N.isNone_t, N.isNone_i, N.v_isN, N.v_isNn, N.v_eqB, N.v_neB, List.set_cons_succ, List.set_cons_zero, List.getElem?_cons_succ, List.getElem?_cons_zero, Bool.not_true, Bool.not_false, Bool.false_eq_true, Bool.true_eq_false, eq_self, true_implies, false_implies, true_and, and_true, decide_true, decide_false, Int.zero_add, N.R_sl, N.R_it, R_oNone, R_oSome, wipeN, N.R_lst, N.R_mkF, N.R_mkT, N.R_meth, N.v_addT, Ri_rng1, Ri_rng2, Ri_seq, show TyT.int.of (.bool z) = true from rfl, show TyT.bl.of (.bool z) = true from rfl]
      rw [thn_nx, Rs_seq, Rs_if]
      simp only [Rs_nil, R_call, R_cons, R_nil, R_Var, R_C, R_bin, R_cmp, R_tcmp, R_tOr, R_tAnd, R_tNot, R_tVal, R_tTrue, R_ite, R_eAnd, R_eOr, R_eNot, R_neg, R_tup, R_isi, R_some, Rc_some, N.v_eq, N.v_ne, N.v_lt, N.v_le, N.v_gt, N.v_ge, N.v_add, N.v_sub, N.v_iadd, N.v_xor, N.v_int, N.tru_b, N.pd_d, N.data_nil, N.data_cons, N.len_t, N.v_tupT, N.g_name, N.isNone_n, N.isNone_t, N.isNone_i, N.v_isN, N.v_isNn, N.v_eqB, N.v_neB, List.set_cons_succ, List.set_cons_zero, List.getElem?_cons_succ, List.getElem?_cons_zero, Bool.not_true, Bool.not_false, Bool.false_eq_true, Bool.true_eq_false, eq_self, true_implies, false_implies, true_and, and_true, decide_true, decide_false, Int.zero_add, N.R_sl, N.R_it, R_oNone, R_oSome, wipeN, N.R_lst, N.R_mkF, N.R_mkT, N.R_meth, N.v_addT, Ri_rng1, Ri_rng2, Ri_seq, show TyT.str.of (.bool z) = false from rfl]
      rw [thn_nx, Rs_seq, Rs_ret]
      simp only [Rs_nil, R_call, R_cons, R_nil, R_Var, R_C, R_bin, R_cmp, R_tcmp, R_tOr, R_tAnd, R_tNot, R_tVal, R_tTrue, R_ite, R_eAnd, R_eOr, R_eNot, R_neg, R_tup, R_isi, R_some, Rc_some, N.v_eq, N.v_ne, N.v_lt, N.v_le, N.v_gt, N.v_ge, N.v_add, N.v_sub, N.v_iadd, N.v_xor, N.v_int, N.tru_b, N.pd_d, N.data_nil, N.data_cons, N.len_t, N.v_tupT, N.g_name, N.isNone_n, N.isNone_t, N.isNone_i, N.v_isN, N.v_isNn, N.v_eqB, N.v_neB, List.set_cons_succ, List.set_cons_zero, List.getElem?_cons_succ, List.getElem?_cons_zero, Bool.not_true, Bool.not_false, Bool.false_eq_true, Bool.true_eq_false, eq_self, true_implies, false_implies, true_and, and_true, decide_true, decide_false, Int.zero_add, N.R_sl, N.R_it, R_oNone, R_oSome, wipeN, N.R_lst, N.R_mkF, N.R_mkT, N.R_meth, N.v_addT, Ri_rng1, Ri_rng2, Ri_seq]
      refine ⟨by simp [lim], by simp [lim], ?_⟩
      refine Rc_pickN (P := wd (B + 2) (k + 3)) (fun y hy => ?_) hd fun y hy => ?_
      · simp only [List.mem_cons, List.not_mem_nil, or_false] at hy
        rcases hy with rfl | rfl | rfl | rfl | rfl | rfl | rfl | rfl
        all_goals simp [wd]
      · rw [thn_rt]
        exact fin hy t1
    | list _ => exact hx.elim
    | dict _ => exact hx.elim
theorem R_srtSetN {m : ME} {e : Lo} {s : Sto} {Q : D → Sto → Prop} (h : R (m e s) fun d s1 => ∃ qs : List Nat, d = .d (.list (nt qs)) ∧ qs.length < 60 ∧ ∀ r : List Nat, r.length ≤ qs.length → (∀ x, x ∈ r ↔ x ∈ qs) → r.Pairwise (· < ·) → Q (.d (.list (nt r))) s1) : R (eSrtSetI false m e s) Q := by
  obtain ⟨_, s1, h1, qs, rfl, hl, q⟩ := h
  have hi := intsOf_nt qs
  have e1 : ascI (qs.map ci) = ((ascI (qs.map ci)).map Int.toNat).map ci := by
    rw [List.map_map]
    conv => lhs; rw [← List.map_id (ascI (qs.map ci))]
    refine List.map_congr_left fun x hx => ?_
    obtain ⟨k, _, rfl⟩ := List.mem_map.mp (ascI_mem.mp hx)
    rfl
  have hm : ∀ x, x ∈ (ascI (qs.map ci)).map Int.toNat ↔ x ∈ qs := fun x => by
    rw [List.mem_map]
    constructor
    · rintro ⟨y, hy, rfl⟩
      obtain ⟨k, hk, rfl⟩ := List.mem_map.mp (ascI_mem.mp hy)
      exact hk
    · intro hx
      exact ⟨ci x, ascI_mem.mpr (List.mem_map.mpr ⟨x, hx, rfl⟩), rfl⟩
  have hp : ((ascI (qs.map ci)).map Int.toNat).Pairwise (· < ·) := by
    have h2 := ascI_lt (qs.map ci)
    rw [e1] at h2
    exact (List.pairwise_map.mp h2).imp fun h => Int.ofNat_lt.mp h
  have hlen : ((ascI (qs.map ci)).map Int.toNat).length ≤ qs.length := nodup_le (hp.imp fun h => Nat.ne_of_lt h) fun x hx => (hm x).mp hx
  unfold eSrtSetI
  simp only [h1, hi]
  rw [if_pos (by rw [List.length_map]; exact hl), e1]
  generalize (ascI (qs.map ci)).map Int.toNat = r at hm hp hlen
  rw [R_mkF, List.map_map, show ((fun i : Int => D.d (PyData.int i)) ∘ ci) = D.d ∘ (fun n : Nat => PyData.int (n : Nat)) from rfl, data_mapf, Rc_some]
  exact q r hlen hm hp
theorem lst_bel (xs : List PyData) (n : Nat) : (Cell.lst (xs.map .d)).below n := by
  intro j h
  simp at h
theorem flat_snoc {rest : Sto} (f : Flat rest) {c : Cell} (h : ∀ n, c.below n) : Flat (rest ++ [c]) := fun x hx n => (List.mem_append.mp hx).elim (fun h => f x h n) fun hx => by
  rw [List.mem_singleton.mp hx]
  exact h n
end N

namespace N
open PySem L2 PyProof.Rows

noncomputable def b_is_ascending : MS := (sSeq (sRet (eCall bAll (aCons (eLc false [1] (iRng1 (aCons (eBin oSub (eCall bLen (aCons (eVar 0) aNil)) (eC (.int 1))) aNil)) (gName 1) tTrue (eCmp cLtA (eIt (eVar 0) (eVar 1)) (eIt (eVar 0) (eBin (oAdd false) (eVar 1) (eC (.int 1)))))) aNil)))
  sNil)
noncomputable def m_is_ascending : FA := fnR 1 2 false b_is_ascending
noncomputable def b_is_way : MS := (sSeq (sIf (tOr (tNot (tVal (eIsi .tup (eVar 1)))) (tOr (tCmp cNe (eCall bLen (aCons (eVar 1) aNil)) (eC (.int 2))) (tNot (tVal (eCall bAll (aCons (eLc false [2] (iSeq (eVar 1)) (gName 2) tTrue (eCall m_is_number (aCons (eVar 2) (aCons (eC (.int 0)) (aCons (eBin oSub (eVar 0) (eC (.int 1))) aNil))))) aNil)))))) (sSeq (sRet (eC (.bool false)))
  sNil) sNil)
  (sSeq (sRet (eCmp cLt (eIt (eVar 1) (eC (.int 0))) (eIt (eVar 1) (eC (.int 1)))))
  sNil))
noncomputable def m_is_way : FA := fnR 2 3 false b_is_way
noncomputable def b_is_park : MS := (sSeq (sIf (tOr (tNot (tVal (eIsi .tup (eVar 0)))) (tOr (tCmp cNe (eCall bLen (aCons (eVar 0) aNil)) (eC (.int 2))) (tNot (tVal (eCall m_is_number (aCons (eIt (eVar 0) (eC (.int 0))) (aCons (eC (.int 1)) (aCons (eC (.int 12)) aNil)))))))) (sSeq (sRet (eC (.bool false)))
  sNil) sNil)
  (sSeq (sIf (tOr (tNot (tVal (eIsi .tup (eIt (eVar 0) (eC (.int 1)))))) (tNot (tVal (eCall bAll (aCons (eLc false [1] (iSeq (eIt (eVar 0) (eC (.int 1)))) (gName 1) tTrue (eCall m_is_way (aCons (eIt (eVar 0) (eC (.int 0))) (aCons (eVar 1) aNil)))) aNil))))) (sSeq (sRet (eC (.bool false)))
  sNil) sNil)
  (sSeq (sRet (eCall m_is_ascending (aCons (eIt (eVar 0) (eC (.int 1))) aNil)))
  sNil)))
noncomputable def m_is_park : FA := fnR 1 2 false b_is_park
noncomputable def b_near : MS := (sSeq (sAsg (gTup (gsLenOk 2 (gsCons (gName 1) (gsCons (gName 2) gsNil)))) (eVar 0))
  (sSeq (sSet 3 (eLst true aNil))
  (sSeq (sFor (iRng1 (aCons (eVar 1) aNil)) (gName 4) (sSeq (sSet 5 (eLc false [6, 7] (iSeq (eVar 2)) (gTup (gsLenOk 2 (gsCons (gName 6) (gsCons (gName 7) gsNil)))) (tCmp (cIn false) (eVar 4) (eTup (aCons (eVar 6) (aCons (eVar 7) aNil)))) (eBin oSub (eBin (oAdd false) (eVar 6) (eVar 7)) (eVar 4))))
  (sSeq (sExpr (eMeth fApp (eVar 3) (aCons (eCall bTuple (aCons (eCall (bSorted false) (aCons (eBin (oAdd false) (eVar 5) (eLst false (aCons (eVar 4) aNil))) aNil)) aNil)) aNil)))
  sNil)) [4, 5])
  (sSeq (sRet (eCall bTuple (aCons (eVar 3) aNil)))
  sNil))))
noncomputable def m_near : FA := fnR 1 8 false b_near
noncomputable def b_steps_from : MS := (sSeq (sPar [2, 3, 4] (aCons (eCall m_near (aCons (eVar 0) aNil)) (aCons (eDisp (ppV (eVar 1) (eC (.int 0)) ppN)) (aCons (eLst true (aCons (eVar 1) aNil)) aNil))))
  (sSeq (sWhile (tVal (eVar 4)) (sSeq (sSet 5 (eMeth fPopAt (eVar 4) (aCons (eC (.int 0)) aNil)))
  (sSeq (sFor (iSeq (eIt (eVar 2) (eVar 5))) (gName 6) (sSeq (sIf (tCmp (cIn true) (eVar 6) (eVar 3)) (sSeq (sPu (eVar 3) (eVar 6) (eBin (oAdd false) (eIt (eVar 3) (eVar 5)) (eC (.int 1))))
  (sSeq (sExpr (eMeth fApp (eVar 4) (aCons (eVar 6) aNil)))
  sNil)) sNil)
  sNil) [])
  sNil)) [5])
  (sSeq (sRet (eCall bTuple (aCons (eLc false [6] (iRng1 (aCons (eIt (eVar 0) (eC (.int 0))) aNil)) (gName 6) tTrue (eGetK (eVar 3) (eVar 6))) aNil)))
  sNil)))
noncomputable def m_steps_from : FA := fnR 2 7 false b_steps_from
noncomputable def b_is_corner : MS := (sSeq (sRet (eAnd (eCmp cNe (eVar 2) (eVar 3)) (eAnd (eCmp (cIn false) (eVar 3) (eIt (eVar 0) (eVar 2))) (eCall bAll (aCons (eLc false [4] (iSeq (eIt (eVar 0) (eVar 2))) (gName 4) (tCmp (cIn false) (eVar 4) (eVar 1)) (eCmp (cIn false) (eVar 4) (eIt (eVar 0) (eVar 3)))) aNil)))))
  sNil)
noncomputable def m_is_corner : FA := fnR 4 5 false b_is_corner
noncomputable def b_corners : MS := (sSeq (sSet 2 (eCall m_near (aCons (eVar 0) aNil)))
  (sSeq (sRet (eCall bTuple (aCons (eLc2 false [3, 4] [4] (iSeq (eVar 1)) (gName 3) tTrue (iSeq (eVar 1)) (gName 4) (tVal (eCall m_is_corner (aCons (eVar 2) (aCons (eVar 1) (aCons (eVar 3) (aCons (eVar 4) aNil)))))) (eTup (aCons (eVar 3) (aCons (eVar 4) aNil)))) aNil)))
  sNil))
noncomputable def m_corners : FA := fnR 2 5 false b_corners
noncomputable def b_take_apart : MS := (sSeq (sPar [1, 2] (aCons (eLstR true (eIt (eVar 0) (eC (.int 0)))) (aCons (eLst true aNil) aNil)))
  (sSeq (sWhile (tCmp cGt (eCall bLen (aCons (eVar 1) aNil)) (eC (.int 1))) (sSeq (sSet 3 (eCall m_corners (aCons (eVar 0) (aCons (eVar 1) aNil))))
  (sSeq (sIf (tNot (tVal (eVar 3))) (sSeq (sRet (eTup (aCons (eC (.str "stuck")) (aCons (eCall bTuple (aCons (eVar 2) aNil)) aNil))))
  sNil) sNil)
  (sSeq (sExpr (eMeth fApp (eVar 2) (aCons (eIt (eVar 3) (eC (.int 0))) aNil)))
  (sSeq (sExpr (eMeth fRem (eVar 1) (aCons (eIt (eIt (eVar 3) (eC (.int 0))) (eC (.int 0))) aNil)))
  sNil)))) [3])
  (sSeq (sRet (eTup (aCons (eC (.str "apart")) (aCons (eCall bTuple (aCons (eVar 2) aNil)) aNil))))
  sNil)))
noncomputable def m_take_apart : FA := fnR 1 4 false b_take_apart
noncomputable def b_left_behind : MS := (sSeq (sIf (tNot (tVal (eIsi .tup (eVar 1)))) (sSeq (sRet (eC .none))
  sNil) sNil)
  (sSeq (sPar [2, 3] (aCons (eCall m_near (aCons (eVar 0) aNil)) (aCons (eLstR true (eIt (eVar 0) (eC (.int 0)))) aNil)))
  (sSeq (sFor (iSeq (eVar 1)) (gName 4) (sSeq (sIf (tOr (tNot (tVal (eIsi .tup (eVar 4)))) (tCmp cNe (eCall bLen (aCons (eVar 4) aNil)) (eC (.int 2)))) (sSeq (sRet (eC .none))
  sNil) sNil)
  (sSeq (sIf (tNot (tVal (eCall bAll (aCons (eLc false [5] (iSeq (eVar 4)) (gName 5) tTrue (eCall m_is_number (aCons (eVar 5) (aCons (eC (.int 0)) (aCons (eBin oSub (eIt (eVar 0) (eC (.int 0))) (eC (.int 1))) aNil))))) aNil)))) (sSeq (sRet (eC .none))
  sNil) sNil)
  (sSeq (sAsg (gTup (gsLenOk 2 (gsCons (gName 6) (gsCons (gName 7) gsNil)))) (eVar 4))
  (sSeq (sIf (tOr (tCmp (cIn true) (eVar 6) (eVar 3)) (tOr (tCmp (cIn true) (eVar 7) (eVar 3)) (tNot (tVal (eCall m_is_corner (aCons (eVar 2) (aCons (eVar 3) (aCons (eVar 6) (aCons (eVar 7) aNil))))))))) (sSeq (sRet (eC .none))
  sNil) sNil)
  (sSeq (sExpr (eMeth fRem (eVar 3) (aCons (eVar 6) aNil)))
  sNil))))) [4, 6, 7])
  (sSeq (sRet (eVar 3))
  sNil))))
noncomputable def m_left_behind : FA := fnR 2 8 false b_left_behind
noncomputable def b_is_apart : MS := (sSeq (sSet 2 (eCall m_left_behind (aCons (eVar 0) (aCons (eVar 1) aNil))))
  (sSeq (sRet (eAnd (eCmp (cIsN true) (eVar 2) (eC .none)) (eCmp cEq (eCall bLen (aCons (eVar 2) aNil)) (eC (.int 1)))))
  sNil))
noncomputable def m_is_apart : FA := fnR 2 3 false b_is_apart
noncomputable def b_is_stuck : MS := (sSeq (sSet 2 (eCall m_left_behind (aCons (eVar 0) (aCons (eVar 1) aNil))))
  (sSeq (sRet (eAnd (eCmp (cIsN true) (eVar 2) (eC .none)) (eAnd (eCmp cGt (eCall bLen (aCons (eVar 2) aNil)) (eC (.int 1))) (eNot (eCall m_corners (aCons (eVar 0) (aCons (eVar 2) aNil)))))))
  sNil))
noncomputable def m_is_stuck : FA := fnR 2 3 false b_is_stuck
noncomputable def b__law_flat : MS := (sSeq (sSet 1 (eLst true aNil))
  (sSeq (sFor (iSeq (eVar 0)) (gName 2) (sSeq (sExpr (eMeth fExt (eVar 1) (aCons (eVar 2) aNil)))
  sNil) [2])
  (sSeq (sRet (eVar 1))
  sNil)))
noncomputable def m__law_flat : FA := fnR 1 3 false b__law_flat
noncomputable def b__law_park : MS := (sSeq (sPar [2, 3] (aCons (eBin (oAdd false) (eC (.int 1)) (eCall m__law_draw (aCons (eVar 0) (aCons (eVar 1) aNil)))) (aCons (eLst true aNil) aNil)))
  (sSeq (sFor (iRng2 (aCons (eC (.int 1)) (aCons (eVar 2) aNil))) (gName 4) (sSeq (sIf (tCmp cGt (eCall m__law_draw (aCons (eVar 0) (aCons (eC (.int 8)) aNil))) (eC (.int 0))) (sSeq (sExpr (eMeth fApp (eVar 3) (aCons (eTup (aCons (eCall m__law_draw (aCons (eVar 0) (aCons (eVar 4) aNil))) (aCons (eVar 4) aNil))) aNil)))
  sNil) sNil)
  sNil) [4])
  (sSeq (sFor (iRng1 (aCons (eCall m__law_draw (aCons (eVar 0) (aCons (eBin (oAdd false) (eVar 2) (eC (.int 2))) aNil))) aNil)) (gName 5) (sSeq (sPar [6, 7] (aCons (eCall m__law_draw (aCons (eVar 0) (aCons (eVar 2) aNil))) (aCons (eCall m__law_draw (aCons (eVar 0) (aCons (eVar 2) aNil))) aNil)))
  (sSeq (sIf (tAnd (tCmp cNe (eVar 6) (eVar 7)) (tCmp (cIn true) (eTup (aCons (eCall bMin2 (aCons (eVar 6) (aCons (eVar 7) aNil))) (aCons (eCall bMax2 (aCons (eVar 6) (aCons (eVar 7) aNil))) aNil))) (eVar 3))) (sSeq (sExpr (eMeth fApp (eVar 3) (aCons (eTup (aCons (eCall bMin2 (aCons (eVar 6) (aCons (eVar 7) aNil))) (aCons (eCall bMax2 (aCons (eVar 6) (aCons (eVar 7) aNil))) aNil))) aNil)))
  sNil) sNil)
  sNil)) [5, 6, 7])
  (sSeq (sRet (eTup (aCons (eVar 2) (aCons (eCall bTuple (aCons (eCall (bSorted false) (aCons (eVar 3) aNil)) aNil)) aNil))))
  sNil))))
noncomputable def m__law_park : FA := fnR 2 8 false b__law_park
noncomputable def b__law_near : MS := (sSeq (sRet (eLc false [2] (iRng1 (aCons (eIt (eVar 0) (eC (.int 0))) aNil)) (gName 2) tTrue (eLc false [1] (iRng1 (aCons (eIt (eVar 0) (eC (.int 0))) aNil)) (gName 1) (tOr (tCmp cEq (eVar 1) (eVar 2)) (tCmp (cIn false) (eTup (aCons (eCall bMin2 (aCons (eVar 2) (aCons (eVar 1) aNil))) (aCons (eCall bMax2 (aCons (eVar 2) (aCons (eVar 1) aNil))) aNil))) (eIt (eVar 0) (eC (.int 1))))) (eVar 1))))
  sNil)
noncomputable def m__law_near : FA := fnR 1 3 false b__law_near
noncomputable def b__law_is_corner : MS := (sSeq (sRet (eAnd (eCmp cNe (eVar 2) (eVar 3)) (eCall bAll (aCons (eLc false [4] (iSeq (eIt (eVar 0) (eVar 2))) (gName 4) (tCmp (cIn false) (eVar 4) (eVar 1)) (eCmp (cIn false) (eVar 4) (eIt (eVar 0) (eVar 3)))) aNil))))
  sNil)
noncomputable def m__law_is_corner : FA := fnR 4 5 false b__law_is_corner
noncomputable def b__law_corners : MS := (sSeq (sRet (eCall m__law_flat (aCons (eLc false [3] (iSeq (eVar 1)) (gName 3) tTrue (eLc false [2] (iSeq (eVar 1)) (gName 2) (tVal (eCall m__law_is_corner (aCons (eVar 0) (aCons (eVar 1) (aCons (eVar 3) (aCons (eVar 2) aNil)))))) (eTup (aCons (eVar 3) (aCons (eVar 2) aNil))))) aNil)))
  sNil)
noncomputable def m__law_corners : FA := fnR 2 4 false b__law_corners
noncomputable def b__law_apart : MS := (sSeq (sPar [2, 3, 4] (aCons (eCall m__law_near (aCons (eVar 1) aNil)) (aCons (eLstR true (eIt (eVar 1) (eC (.int 0)))) (aCons (eLst true aNil) aNil))))
  (sSeq (sWhile (tAnd (tCmp cGt (eCall bLen (aCons (eVar 3) aNil)) (eC (.int 1))) (tCmp cNe (eCall m__law_corners (aCons (eVar 2) (aCons (eVar 3) aNil))) (eLst false aNil))) (sSeq (sSet 5 (eCall m__law_corners (aCons (eVar 2) (aCons (eVar 3) aNil))))
  (sSeq (sSet 6 (eIt (eVar 5) (eCall m__law_draw (aCons (eVar 0) (aCons (eCall bLen (aCons (eVar 5) aNil)) aNil)))))
  (sSeq (sExpr (eMeth fApp (eVar 4) (aCons (eVar 6) aNil)))
  (sSeq (sExpr (eMeth fRem (eVar 3) (aCons (eIt (eVar 6) (eC (.int 0))) aNil)))
  sNil)))) [5, 6])
  (sSeq (sRet (eTup (aCons (eCall bTuple (aCons (eVar 4) aNil)) (aCons (eCmp cEq (eCall bLen (aCons (eVar 3) aNil)) (eC (.int 1))) aNil))))
  sNil)))
noncomputable def m__law_apart : FA := fnR 2 7 false b__law_apart
end N

namespace T72
open PySem L2 PyProof.Rows N
open Z (Dfn)
def topS (i : Nat) : Stmt := PySem.Challenge.pw_cantmove_k72_whole_parks_taken_apart.main.body.getD i (.Pass ⟨0, 0, 0, 0⟩)
structure Nm (mg : Str → Option Value) : Prop where
  n_all : mg "all" = none
  n_any : mg "any" = none
  n_bool : mg "bool" = none
  n_int : mg "int" = none
  n_isinstance : mg "isinstance" = none
  n_len : mg "len" = none
  n_list : mg "list" = none
  n_max : mg "max" = none
  n_min : mg "min" = none
  n_range : mg "range" = none
  n_set : mg "set" = none
  n_sorted : mg "sorted" = none
  n_str : mg "str" = none
  n_tuple : mg "tuple" = none
structure Gm (mg : Str → Option Value) : Prop where
  MAX_PARK : Gv mg "MAX_PARK" (.int 12)
variable {P : Program} {w : World} {K : PySem.W.Frag} {mg : Str → Option Value} {base : Heap}
abbrev s_is_number : Stmt := topS 1
theorem sc_is_number : FnScope ["value", "least", "most"] ["value", "least", "most"] (defScope s_is_number) := ⟨rfl, rfl, rfl, by decide +kernel, rfl, by decide +kernel, by decide +kernel⟩
theorem c_is_number  (DD : Dfn K mg "is_number" s_is_number ["value", "least", "most"]) (n : Nm mg) (g : Gm mg)  : Fn P w K mg base 1 "is_number" m_is_number :=
  nfun (k := 0) DD sc_is_number fun f cdv A outer s H E hr => by
  have hu := hr.units
  have nd := sc_is_number.nd
  exact (ns_seq (ns_ret (n_and (n_isi .int (n_var 0) n.n_isinstance n.n_int) (n_and (n_not (n_isi .bl (n_var 0) n.n_isinstance n.n_bool)) (n_one (n_ch op_le op_le (n_var 1) (n_var 0) (n_var 2))))))
  ns_nil)
abbrev s_is_ascending : Stmt := topS 2
theorem sc_is_ascending : FnScope ["rows", "k"] ["rows"] (defScope s_is_ascending) := ⟨rfl, rfl, rfl, by decide +kernel, rfl, by decide +kernel, by decide +kernel⟩
theorem c_is_ascending  (DD : Dfn K mg "is_ascending" s_is_ascending ["rows"]) (n : Nm mg) (g : Gm mg)  : Fn P w K mg base 1 "is_ascending" m_is_ascending :=
  nfun (k := 0) DD sc_is_ascending fun f cdv A outer s H E hr => by
  have hu := hr.units
  have nd := sc_is_ascending.nd
  exact (ns_seq (ns_ret (n_callB (b_all rfl) (n_cons (n_lc (ni_rng1 (n_cons (n_bin o_sub (n_callB b_len (n_cons (n_var 0) n_nil) n.n_len) n_int) n_nil) n.n_range) (fun z => (ng_name 1 nd)) (fun z => nts_nil) (fun z => (n_cmp (c_ltA hu) (n_it hu (n_var 0) (n_var 1)) (n_it hu (n_var 0) (n_bin o_add (n_var 1) n_int)))) nd (blkOk_by (own := [("k", 1)]) (by kernel_rfl))) n_nil) n.n_all))
  ns_nil)
abbrev s_is_way : Stmt := topS 5
theorem sc_is_way : FnScope ["n", "value", "place"] ["n", "value"] (defScope s_is_way) := ⟨rfl, rfl, rfl, by decide +kernel, rfl, by decide +kernel, by decide +kernel⟩
theorem c_is_way  (DD : Dfn K mg "is_way" s_is_way ["n", "value"]) (n : Nm mg) (g : Gm mg) (h_is_number : Fn P w K mg base 1 "is_number" m_is_number) : Fn P w K mg base 2 "is_way" m_is_way :=
  nfun (k := 1) DD sc_is_way fun f cdv A outer s H E hr => by
  have hu := hr.units
  have nd := sc_is_way.nd
  exact (ns_seq (ns_if (nt_bo (nw_or (nt_not (nt_val (n_isi .tup (n_var 1) n.n_isinstance n.n_tuple))) (nw_or (nt_cmp (c_ne hu) (n_callB b_len (n_cons (n_var 1) n_nil) n.n_len) n_int) (nw_or1 (nt_not (nt_val (n_callB (b_all rfl) (n_cons (n_lc (ni_seq (n_var 1)) (fun z => (ng_name 2 nd)) (fun z => nts_nil) (fun z => (n_call h_is_number (n_cons (n_var 2) (n_cons n_int (n_cons (n_bin o_sub (n_var 0) n_int) n_nil))) hr)) nd (blkOk_by (own := [("place", 2)]) (by kernel_rfl))) n_nil) n.n_all))))))) (ns_seq (ns_ret n_bl)
  ns_nil) ns_nil)
  (ns_seq (ns_ret (n_cmp c_lt (n_it hu (n_var 1) n_int) (n_it hu (n_var 1) n_int)))
  ns_nil))
abbrev s_is_park : Stmt := topS 6
theorem sc_is_park : FnScope ["value", "way"] ["value"] (defScope s_is_park) := ⟨rfl, rfl, rfl, by decide +kernel, rfl, by decide +kernel, by decide +kernel⟩
theorem c_is_park  (DD : Dfn K mg "is_park" s_is_park ["value"]) (n : Nm mg) (g : Gm mg) (h_is_ascending : Fn P w K mg base 1 "is_ascending" m_is_ascending) (h_is_number : Fn P w K mg base 1 "is_number" m_is_number) (h_is_way : Fn P w K mg base 2 "is_way" m_is_way) : Fn P w K mg base 3 "is_park" m_is_park :=
  nfun (k := 2) DD sc_is_park fun f cdv A outer s H E hr => by
  have hu := hr.units
  have nd := sc_is_park.nd
  exact (ns_seq (ns_if (nt_bo (nw_or (nt_not (nt_val (n_isi .tup (n_var 0) n.n_isinstance n.n_tuple))) (nw_or (nt_cmp (c_ne hu) (n_callB b_len (n_cons (n_var 0) n_nil) n.n_len) n_int) (nw_or1 (nt_not (nt_val (n_call h_is_number (n_cons (n_it hu (n_var 0) n_int) (n_cons n_int (n_cons (n_glob g.MAX_PARK) n_nil))) hr))))))) (ns_seq (ns_ret n_bl)
  ns_nil) ns_nil)
  (ns_seq (ns_if (nt_bo (nw_or (nt_not (nt_val (n_isi .tup (n_it hu (n_var 0) n_int) n.n_isinstance n.n_tuple))) (nw_or1 (nt_not (nt_val (n_callB (b_all rfl) (n_cons (n_lc (ni_seq (n_it hu (n_var 0) n_int)) (fun z => (ng_name 1 nd)) (fun z => nts_nil) (fun z => (n_call h_is_way (n_cons (n_it hu (n_var 0) n_int) (n_cons (n_var 1) n_nil)) hr)) nd (blkOk_by (own := [("way", 1)]) (by kernel_rfl))) n_nil) n.n_all)))))) (ns_seq (ns_ret n_bl)
  ns_nil) ns_nil)
  (ns_seq (ns_ret (n_call h_is_ascending (n_cons (n_it hu (n_var 0) n_int) n_nil) hr))
  ns_nil)))
abbrev s_near : Stmt := topS 7
theorem sc_near : FnScope ["park", "n", "ways", "found", "place", "rows", "i", "j"] ["park"] (defScope s_near) := ⟨rfl, rfl, rfl, by decide +kernel, rfl, by decide +kernel, by decide +kernel⟩
theorem c_near  (DD : Dfn K mg "near" s_near ["park"]) (n : Nm mg) (g : Gm mg)  : Fn P w K mg base 1 "near" m_near :=
  nfun (k := 0) DD sc_near fun f cdv A outer s H E hr => by
  have hu := hr.units
  have nd := sc_near.nd
  exact (ns_seq (ns_asg (vs := [1, 2]) (n_var 0) (ng_tup (ngs_cons (ng_name 1 nd) (ngs_cons (ng_name 2 nd) ngs_nil))))
  (ns_seq (ns_set 3 (n_lst n_nil) nd)
  (ns_seq (ns_for (vs := [4]) (ni_rng1 (n_cons (n_var 1) n_nil) n.n_range) (ng_name 4 nd) (ns_seq (ns_setLc 5 (ni_seq (n_var 2)) (fun z => (ng_tup (ngs_cons (ng_name 6 nd) (ngs_cons (ng_name 7 nd) ngs_nil)))) (fun z => (nts_one (nt_in (.inl ⟨rfl, rfl⟩) hu (n_var 4) (n_tup (n_cons (n_var 6) (n_cons (n_var 7) n_nil)))))) (fun z => (n_bin o_sub (n_bin o_add (n_var 6) (n_var 7)) (n_var 4))) nd (blkOk_by (own := [("i", 6), ("j", 7)]) (by kernel_rfl)))
  (ns_seq (ns_expr (n_meth f_app (n_var 3) (n_cons (n_callT b_tuple (n_cons (n_callB (b_sorted hu) (n_cons (n_bin o_add (n_var 5) (n_lst (n_cons (n_var 4) n_nil))) n_nil) n.n_sorted) n_nil) n.n_tuple) n_nil) PySem.F.slot_list_append PySem.F.type_list_append))
  ns_nil)) PassesOwn.never)
  (ns_seq (ns_ret (n_callT b_tuple (n_cons (n_var 3) n_nil) n.n_tuple))
  ns_nil))))
abbrev s_steps_from : Stmt := topS 8
theorem sc_steps_from : FnScope ["park", "place", "rows", "found", "at", "here", "there"] ["park", "place"] (defScope s_steps_from) := ⟨rfl, rfl, rfl, by decide +kernel, rfl, by decide +kernel, by decide +kernel⟩
theorem c_steps_from  (DD : Dfn K mg "steps_from" s_steps_from ["park", "place"]) (n : Nm mg) (g : Gm mg) (h_near : Fn P w K mg base 1 "near" m_near) : Fn P w K mg base 2 "steps_from" m_steps_from :=
  nfun (k := 1) DD sc_steps_from fun f cdv A outer s H E hr => by
  have hu := hr.units
  have nd := sc_steps_from.nd
  exact (ns_seq (ns_parC3 2 3 4 (n_cons (n_call h_near (n_cons (n_var 0) n_nil) hr) (n_cons (n_disp (npp_consV (n_var 1) n_int npp_nil)) (n_cons (n_lst (n_cons (n_var 1) n_nil)) n_nil))) nd)
  (ns_seq (ns_while (nt_val (n_var 4)) (ns_seq (ns_set 5 (n_meth f_popAt (n_var 4) (n_cons n_int n_nil) PySem.F.slot_list_pop PySem.F.type_list_pop) nd)
  (ns_seq (ns_for (vs := [6]) (ni_seq (n_it hu (n_var 2) (n_var 5))) (ng_name 6 nd) (ns_seq (ns_if (nt_in (.inr ⟨rfl, rfl⟩) hu (n_var 6) (n_var 3)) (ns_seq (ns_pu hu (n_bin o_add (n_it hu (n_var 3) (n_var 5)) n_int) (n_var 3) (n_var 6))
  (ns_seq (ns_expr (n_meth f_app (n_var 4) (n_cons (n_var 6) n_nil) PySem.F.slot_list_append PySem.F.type_list_append))
  ns_nil)) ns_nil)
  ns_nil) PassesOwn.never)
  ns_nil)) PassesOwn.never)
  (ns_seq (ns_ret (n_callT b_tuple (n_cons (n_lc (ni_rng1 (n_cons (n_it hu (n_var 0) n_int) n_nil) n.n_range) (fun z => (ng_name 6 nd)) (fun z => nts_nil) (fun z => (n_getK hu (n_var 3) (n_var 6))) nd (blkOk_by (own := [("there", 6)]) (by kernel_rfl))) n_nil) n.n_tuple))
  ns_nil)))
abbrev s_is_corner : Stmt := topS 9
theorem sc_is_corner : FnScope ["rows", "left", "u", "v", "there"] ["rows", "left", "u", "v"] (defScope s_is_corner) := ⟨rfl, rfl, rfl, by decide +kernel, rfl, by decide +kernel, by decide +kernel⟩
theorem c_is_corner  (DD : Dfn K mg "is_corner" s_is_corner ["rows", "left", "u", "v"]) (n : Nm mg) (g : Gm mg)  : Fn P w K mg base 1 "is_corner" m_is_corner :=
  nfun (k := 0) DD sc_is_corner fun f cdv A outer s H E hr => by
  have hu := hr.units
  have nd := sc_is_corner.nd
  exact (ns_seq (ns_ret (n_and (n_cmp (c_ne hu) (n_var 2) (n_var 3)) (n_and (n_in (.inl ⟨rfl, rfl⟩) hu (n_var 3) (n_it hu (n_var 0) (n_var 2))) (n_one (n_callB (b_all rfl) (n_cons (n_lc (ni_seq (n_it hu (n_var 0) (n_var 2))) (fun z => (ng_name 4 nd)) (fun z => (nts_one (nt_in (.inl ⟨rfl, rfl⟩) hu (n_var 4) (n_var 1)))) (fun z => (n_in (.inl ⟨rfl, rfl⟩) hu (n_var 4) (n_it hu (n_var 0) (n_var 3)))) nd (blkOk_by (own := [("there", 4)]) (by kernel_rfl))) n_nil) n.n_all)))))
  ns_nil)
abbrev s_corners : Stmt := topS 10
theorem sc_corners : FnScope ["park", "left", "rows", "u", "v"] ["park", "left"] (defScope s_corners) := ⟨rfl, rfl, rfl, by decide +kernel, rfl, by decide +kernel, by decide +kernel⟩
theorem c_corners  (DD : Dfn K mg "corners" s_corners ["park", "left"]) (n : Nm mg) (g : Gm mg) (h_is_corner : Fn P w K mg base 1 "is_corner" m_is_corner) (h_near : Fn P w K mg base 1 "near" m_near) : Fn P w K mg base 2 "corners" m_corners :=
  nfun (k := 1) DD sc_corners fun f cdv A outer s H E hr => by
  have hu := hr.units
  have nd := sc_corners.nd
  exact (ns_seq (ns_set 2 (n_call h_near (n_cons (n_var 0) n_nil) hr) nd)
  (ns_seq (ns_ret (n_callT b_tuple (n_cons (n_lc2 (ni_seq (n_var 1)) (fun z => (ng_name 3 nd)) (fun z => nts_nil) (fun z => (ni_seq (n_var 1))) (fun z => (ng_name 4 nd)) (fun z => (nts_one (nt_val (n_call h_is_corner (n_cons (n_var 2) (n_cons (n_var 1) (n_cons (n_var 3) (n_cons (n_var 4) n_nil)))) hr)))) (fun z => (n_tup (n_cons (n_var 3) (n_cons (n_var 4) n_nil)))) nd (blkOk_by (own := [("u", 3), ("v", 4)]) (by kernel_rfl))) n_nil) n.n_tuple))
  ns_nil))
abbrev s_take_apart : Stmt := topS 11
theorem sc_take_apart : FnScope ["park", "left", "found", "pairs"] ["park"] (defScope s_take_apart) := ⟨rfl, rfl, rfl, by decide +kernel, rfl, by decide +kernel, by decide +kernel⟩
theorem c_take_apart  (DD : Dfn K mg "take_apart" s_take_apart ["park"]) (n : Nm mg) (g : Gm mg) (h_corners : Fn P w K mg base 2 "corners" m_corners) : Fn P w K mg base 3 "take_apart" m_take_apart :=
  nfun (k := 2) DD sc_take_apart fun f cdv A outer s H E hr => by
  have hu := hr.units
  have nd := sc_take_apart.nd
  exact (ns_seq (ns_par2 1 2 (n_cons (n_lstR rfl (n_it hu (n_var 0) n_int) n.n_list n.n_range) (n_cons (n_lst n_nil) n_nil)) nd)
  (ns_seq (ns_while (nt_cmp c_gt (n_callB b_len (n_cons (n_var 1) n_nil) n.n_len) n_int) (ns_seq (ns_set 3 (n_call h_corners (n_cons (n_var 0) (n_cons (n_var 1) n_nil)) hr) nd)
  (ns_seq (ns_if (nt_not (nt_val (n_var 3))) (ns_seq (ns_ret (n_tup (n_cons n_str (n_cons (n_callT b_tuple (n_cons (n_var 2) n_nil) n.n_tuple) n_nil))))
  ns_nil) ns_nil)
  (ns_seq (ns_expr (n_meth f_app (n_var 2) (n_cons (n_it hu (n_var 3) n_int) n_nil) PySem.F.slot_list_append PySem.F.type_list_append))
  (ns_seq (ns_expr (n_meth f_rem (n_var 1) (n_cons (n_it hu (n_it hu (n_var 3) n_int) n_int) n_nil) PySem.F.slot_list_remove PySem.F.type_list_remove))
  ns_nil)))) PassesOwn.never)
  (ns_seq (ns_ret (n_tup (n_cons n_str (n_cons (n_callT b_tuple (n_cons (n_var 2) n_nil) n.n_tuple) n_nil))))
  ns_nil)))
abbrev s_left_behind : Stmt := topS 12
theorem sc_left_behind : FnScope ["park", "value", "rows", "left", "pair", "place", "u", "v"] ["park", "value"] (defScope s_left_behind) := ⟨rfl, rfl, rfl, by decide +kernel, rfl, by decide +kernel, by decide +kernel⟩
theorem c_left_behind  (DD : Dfn K mg "left_behind" s_left_behind ["park", "value"]) (n : Nm mg) (g : Gm mg) (h_is_corner : Fn P w K mg base 1 "is_corner" m_is_corner) (h_is_number : Fn P w K mg base 1 "is_number" m_is_number) (h_near : Fn P w K mg base 1 "near" m_near) : Fn P w K mg base 2 "left_behind" m_left_behind :=
  nfun (k := 1) DD sc_left_behind fun f cdv A outer s H E hr => by
  have hu := hr.units
  have nd := sc_left_behind.nd
  exact (ns_seq (ns_if (nt_not (nt_val (n_isi .tup (n_var 1) n.n_isinstance n.n_tuple))) (ns_seq (ns_ret n_non)
  ns_nil) ns_nil)
  (ns_seq (ns_par2 2 3 (n_cons (n_call h_near (n_cons (n_var 0) n_nil) hr) (n_cons (n_lstR rfl (n_it hu (n_var 0) n_int) n.n_list n.n_range) n_nil)) nd)
  (ns_seq (ns_for (vs := [4]) (ni_seq (n_var 1)) (ng_name 4 nd) (ns_seq (ns_if (nt_bo (nw_or (nt_not (nt_val (n_isi .tup (n_var 4) n.n_isinstance n.n_tuple))) (nw_or1 (nt_cmp (c_ne hu) (n_callB b_len (n_cons (n_var 4) n_nil) n.n_len) n_int)))) (ns_seq (ns_ret n_non)
  ns_nil) ns_nil)
  (ns_seq (ns_if (nt_not (nt_val (n_callB (b_all rfl) (n_cons (n_lc (ni_seq (n_var 4)) (fun z => (ng_name 5 nd)) (fun z => nts_nil) (fun z => (n_call h_is_number (n_cons (n_var 5) (n_cons n_int (n_cons (n_bin o_sub (n_it hu (n_var 0) n_int) n_int) n_nil))) hr)) nd (blkOk_by (own := [("place", 5)]) (by kernel_rfl))) n_nil) n.n_all))) (ns_seq (ns_ret n_non)
  ns_nil) ns_nil)
  (ns_seq (ns_asg (vs := [6, 7]) (n_var 4) (ng_tup (ngs_cons (ng_name 6 nd) (ngs_cons (ng_name 7 nd) ngs_nil))))
  (ns_seq (ns_if (nt_bo (nw_or (nt_in (.inr ⟨rfl, rfl⟩) hu (n_var 6) (n_var 3)) (nw_or (nt_in (.inr ⟨rfl, rfl⟩) hu (n_var 7) (n_var 3)) (nw_or1 (nt_not (nt_val (n_call h_is_corner (n_cons (n_var 2) (n_cons (n_var 3) (n_cons (n_var 6) (n_cons (n_var 7) n_nil)))) hr))))))) (ns_seq (ns_ret n_non)
  ns_nil) ns_nil)
  (ns_seq (ns_expr (n_meth f_rem (n_var 3) (n_cons (n_var 6) n_nil) PySem.F.slot_list_remove PySem.F.type_list_remove))
  ns_nil))))) PassesOwn.never)
  (ns_seq (ns_ret (n_var 3))
  ns_nil))))
abbrev s_is_apart : Stmt := topS 13
theorem sc_is_apart : FnScope ["park", "value", "left"] ["park", "value"] (defScope s_is_apart) := ⟨rfl, rfl, rfl, by decide +kernel, rfl, by decide +kernel, by decide +kernel⟩
theorem c_is_apart  (DD : Dfn K mg "is_apart" s_is_apart ["park", "value"]) (n : Nm mg) (g : Gm mg) (h_left_behind : Fn P w K mg base 2 "left_behind" m_left_behind) : Fn P w K mg base 3 "is_apart" m_is_apart :=
  nfun (k := 2) DD sc_is_apart fun f cdv A outer s H E hr => by
  have hu := hr.units
  have nd := sc_is_apart.nd
  exact (ns_seq (ns_set 2 (n_call h_left_behind (n_cons (n_var 0) (n_cons (n_var 1) n_nil)) hr) nd)
  (ns_seq (ns_ret (n_and (n_cmp c_isnot (n_var 2) n_non) (n_one (n_cmp (c_eq hu) (n_callB b_len (n_cons (n_var 2) n_nil) n.n_len) n_int))))
  ns_nil))
abbrev s_is_stuck : Stmt := topS 14
theorem sc_is_stuck : FnScope ["park", "value", "left"] ["park", "value"] (defScope s_is_stuck) := ⟨rfl, rfl, rfl, by decide +kernel, rfl, by decide +kernel, by decide +kernel⟩
theorem c_is_stuck  (DD : Dfn K mg "is_stuck" s_is_stuck ["park", "value"]) (n : Nm mg) (g : Gm mg) (h_corners : Fn P w K mg base 2 "corners" m_corners) (h_left_behind : Fn P w K mg base 2 "left_behind" m_left_behind) : Fn P w K mg base 3 "is_stuck" m_is_stuck :=
  nfun (k := 2) DD sc_is_stuck fun f cdv A outer s H E hr => by
  have hu := hr.units
  have nd := sc_is_stuck.nd
  exact (ns_seq (ns_set 2 (n_call h_left_behind (n_cons (n_var 0) (n_cons (n_var 1) n_nil)) hr) nd)
  (ns_seq (ns_ret (n_and (n_cmp c_isnot (n_var 2) n_non) (n_and (n_cmp c_gt (n_callB b_len (n_cons (n_var 2) n_nil) n.n_len) n_int) (n_one (n_not (n_call h_corners (n_cons (n_var 0) (n_cons (n_var 2) n_nil)) hr))))))
  ns_nil))
abbrev s__law_flat : Stmt := topS 16
theorem sc__law_flat : FnScope ["rows", "found", "row"] ["rows"] (defScope s__law_flat) := ⟨rfl, rfl, rfl, by decide +kernel, rfl, by decide +kernel, by decide +kernel⟩
theorem c__law_flat  (DD : Dfn K mg "_law_flat" s__law_flat ["rows"]) (n : Nm mg) (g : Gm mg)  : Fn P w K mg base 1 "_law_flat" m__law_flat :=
  nfun (k := 0) DD sc__law_flat fun f cdv A outer s H E hr => by
  have hu := hr.units
  have nd := sc__law_flat.nd
  exact (ns_seq (ns_set 1 (n_lst n_nil) nd)
  (ns_seq (ns_for (vs := [2]) (ni_seq (n_var 0)) (ng_name 2 nd) (ns_seq (ns_expr (n_meth f_ext (n_var 1) (n_cons (n_var 2) n_nil) PySem.F.slot_list_extend PySem.F.type_list_extend))
  ns_nil) PassesOwn.never)
  (ns_seq (ns_ret (n_var 1))
  ns_nil)))
noncomputable def m__law_flat_O : FA := fnR 1 3 true b__law_flat
theorem co__law_flat  (DD : Dfn K mg "_law_flat" s__law_flat ["rows"]) (n : Nm mg) (g : Gm mg)  : Fn P w K mg base 1 "_law_flat" m__law_flat_O :=
  nfun (k := 0) DD sc__law_flat fun f cdv A outer s H E hr => by
  have hu := hr.units
  have nd := sc__law_flat.nd
  exact (ns_seq (ns_set 1 (n_lst n_nil) nd)
  (ns_seq (ns_for (vs := [2]) (ni_seq (n_var 0)) (ng_name 2 nd) (ns_seq (ns_expr (n_meth f_ext (n_var 1) (n_cons (n_var 2) n_nil) PySem.F.slot_list_extend PySem.F.type_list_extend))
  ns_nil) PassesOwn.never)
  (ns_seq (ns_ret (n_var 1))
  ns_nil)))
abbrev s__law_box : Stmt := topS 17
theorem sc__law_box : FnScope ["script"] ["script"] (defScope s__law_box) := ⟨rfl, rfl, rfl, by decide +kernel, rfl, by decide +kernel, by decide +kernel⟩
theorem c__law_box  (DD : Dfn K mg "_law_box" s__law_box ["script"]) (n : Nm mg) (g : Gm mg)  : Fn P w K mg base 1 "_law_box" m__law_box :=
  nfun (k := 0) DD sc__law_box fun f cdv A outer s H E hr => by
  have hu := hr.units
  have nd := sc__law_box.nd
  exact (ns_seq (ns_ret (n_lst (n_cons (n_callT b_list (n_cons (n_sl (n_var 0) no_none (no_some n_int)) n_nil) n.n_list) (n_cons n_int (n_cons (n_bin o_add n_int (n_callB b_len (n_cons (n_var 0) n_nil) n.n_len)) n_nil)))))
  ns_nil)
abbrev s__law_load : Stmt := topS 18
theorem sc__law_load : FnScope ["box", "cells", "cell", "size", "first", "second"] ["box"] (defScope s__law_load) := ⟨rfl, rfl, rfl, by decide +kernel, rfl, by decide +kernel, by decide +kernel⟩
theorem c__law_load  (DD : Dfn K mg "_law_load" s__law_load ["box"]) (n : Nm mg) (g : Gm mg)  : Fn P w K mg base 1 "_law_load" m__law_load :=
  nfun (k := 0) DD sc__law_load fun f cdv A outer s H E hr => by
  have hu := hr.units
  have nd := sc__law_load.nd
  exact (ns_seq (ns_set 1 (n_it hu (n_var 0) n_int) nd)
  (ns_seq (ns_if (nt_cmp c_gt (n_callB b_len (n_cons (n_var 1) n_nil) n.n_len) n_int) (ns_seq (ns_set 2 (n_callT b_int (n_cons (n_meth f_popAt (n_var 1) (n_cons n_int n_nil) PySem.F.slot_list_pop PySem.F.type_list_pop) n_nil) n.n_int) nd)
  (ns_seq (ns_set 3 (n_ite (nt_cmp c_ge (n_var 2) n_int) (n_bin o_mul n_int (n_var 2)) (n_bin o_sub (n_bin o_mul (n_neg n_int) (n_var 2)) n_int)) nd)
  (ns_seq (ns_if (nt_cmp c_ge (n_var 3) n_int) (ns_seq (ns_ret (n_var 3))
  ns_nil) ns_nil)
  (ns_seq (ns_pu hu (n_bin o_mod (n_callT b_int (n_cons (n_bin o_add (n_bin o_add (n_bin o_mul (n_it hu (n_var 0) n_int) n_int) (n_bin o_mul (n_var 3) n_int)) n_int) n_nil) n.n_int) n_int) (n_var 0) n_int)
  ns_nil)))) ns_nil)
  (ns_seq (ns_set 4 (n_bin o_mod (n_callT b_int (n_cons (n_bin o_add (n_bin o_mul (n_it hu (n_var 0) n_int) n_int) n_int) n_nil) n.n_int) n_int) nd)
  (ns_seq (ns_set 5 (n_bin o_mod (n_callT b_int (n_cons (n_bin o_add (n_bin o_mul (n_var 4) n_int) n_int) n_nil) n.n_int) n_int) nd)
  (ns_seq (ns_pu hu (n_bin o_mod (n_callT b_int (n_cons (n_bin o_add (n_bin o_mul (n_var 5) n_int) n_int) n_nil) n.n_int) n_int) (n_var 0) n_int)
  (ns_seq (ns_ret (n_bin o_add (n_bin o_add (n_bin o_mul (n_var 4) n_int) (n_bin o_mul (n_var 5) n_int)) (n_it hu (n_var 0) n_int)))
  ns_nil))))))
abbrev s__law_draw : Stmt := topS 19
theorem sc__law_draw : FnScope ["box", "many", "digit"] ["box", "many"] (defScope s__law_draw) := ⟨rfl, rfl, rfl, by decide +kernel, rfl, by decide +kernel, by decide +kernel⟩
theorem c__law_draw  (DD : Dfn K mg "_law_draw" s__law_draw ["box", "many"]) (n : Nm mg) (g : Gm mg) (h__law_load : Fn P w K mg base 1 "_law_load" m__law_load) : Fn P w K mg base 2 "_law_draw" m__law_draw :=
  nfun (k := 1) DD sc__law_draw fun f cdv A outer s H E hr => by
  have hu := hr.units
  have nd := sc__law_draw.nd
  exact (ns_seq (ns_if (nt_cmp c_lt (n_it hu (n_var 0) n_int) (n_var 1)) (ns_seq (ns_pu hu (n_call h__law_load (n_cons (n_var 0) n_nil) hr) (n_var 0) n_int)
  ns_nil) ns_nil)
  (ns_seq (ns_set 2 (n_bin o_mod (n_callT b_int (n_cons (n_it hu (n_var 0) n_int) n_nil) n.n_int) (n_var 1)) nd)
  (ns_seq (ns_pu hu (n_bin o_div (n_it hu (n_var 0) n_int) (n_var 1)) (n_var 0) n_int)
  (ns_seq (ns_ret (n_var 2))
  ns_nil))))
abbrev s__law_same : Stmt := topS 20
theorem sc__law_same : FnScope ["a", "b", "k"] ["a", "b"] (defScope s__law_same) := ⟨rfl, rfl, rfl, by decide +kernel, rfl, by decide +kernel, by decide +kernel⟩
theorem cb__law_same  (DD : Dfn K mg "_law_same" s__law_same ["a", "b"]) (n : Nm mg) (g : Gm mg)  {k : Nat} {rec : FA} (h__law_same : Fn P w K mg base (1 + k) "_law_same" rec) : Fn P w K mg base (1 + (k + 1)) "_law_same" (fnR 2 3 false (b__law_same rec)) :=
  nfun (k := 1 + k) DD sc__law_same fun f cdv A outer s H E hr => by
  have hu := hr.units
  have nd := sc__law_same.nd
  exact (ns_seq (ns_if (nt_bo (nw_or (nt_bo (nw_and (nt_val (n_isi .tup (n_var 0) n.n_isinstance n.n_tuple)) (nw_and1 (nt_val (n_isi .tup (n_var 1) n.n_isinstance n.n_tuple))))) (nw_or1 (nt_bo (nw_and (nt_val (n_isi .lst (n_var 0) n.n_isinstance n.n_list)) (nw_and1 (nt_val (n_isi .lst (n_var 1) n.n_isinstance n.n_list)))))))) (ns_seq (ns_ret (n_and (n_cmp (c_eq hu) (n_callB b_len (n_cons (n_var 0) n_nil) n.n_len) (n_callB b_len (n_cons (n_var 1) n_nil) n.n_len)) (n_one (n_callB (b_all rfl) (n_cons (n_lc (ni_rng1 (n_cons (n_callB b_len (n_cons (n_var 0) n_nil) n.n_len) n_nil) n.n_range) (fun z => (ng_name 2 nd)) (fun z => nts_nil) (fun z => (n_call h__law_same (n_cons (n_it hu (n_var 0) (n_var 2)) (n_cons (n_it hu (n_var 1) (n_var 2)) n_nil)) hr)) nd (blkOk_by (own := [("k", 2)]) (by kernel_rfl))) n_nil) n.n_all))))
  ns_nil) ns_nil)
  (ns_seq (ns_if (nt_bo (nw_or (nt_val (n_isi .bl (n_var 0) n.n_isinstance n.n_bool)) (nw_or1 (nt_val (n_isi .bl (n_var 1) n.n_isinstance n.n_bool))))) (ns_seq (ns_ret (n_and (n_isi .bl (n_var 0) n.n_isinstance n.n_bool) (n_and (n_isi .bl (n_var 1) n.n_isinstance n.n_bool) (n_one (n_cmp (c_eq hu) (n_var 0) (n_var 1))))))
  ns_nil) ns_nil)
  (ns_seq (ns_if (nt_bo (nw_or (nt_bo (nw_and (nt_val (n_isi .int (n_var 0) n.n_isinstance n.n_int)) (nw_and1 (nt_val (n_isi .int (n_var 1) n.n_isinstance n.n_int))))) (nw_or1 (nt_bo (nw_and (nt_val (n_isi .str (n_var 0) n.n_isinstance n.n_str)) (nw_and1 (nt_val (n_isi .str (n_var 1) n.n_isinstance n.n_str)))))))) (ns_seq (ns_ret (n_cmp (c_eq hu) (n_var 0) (n_var 1)))
  ns_nil) ns_nil)
  (ns_seq (ns_ret (n_and (n_cmp c_is (n_var 0) n_non) (n_one (n_cmp c_is (n_var 1) n_non))))
  ns_nil))))
theorem c__law_same  (DD : Dfn K mg "_law_same" s__law_same ["a", "b"]) (n : Nm mg) (g : Gm mg)  : ∀ k : Nat, Fn P w K mg base (1 + k) "_law_same" (m__law_same k)
  | 0 => (nfun_none (k := 0) DD sc__law_same).mono (by omega)
  | k + 1 => cb__law_same DD n g  (c__law_same DD n g  k)
abbrev s__law_bent : Stmt := topS 21
theorem sc__law_bent : FnScope ["box", "value", "at", "pick"] ["box", "value"] (defScope s__law_bent) := ⟨rfl, rfl, rfl, by decide +kernel, rfl, by decide +kernel, by decide +kernel⟩
theorem cb__law_bent  (DD : Dfn K mg "_law_bent" s__law_bent ["box", "value"]) (n : Nm mg) (g : Gm mg) (h__law_draw : Fn P w K mg base 2 "_law_draw" m__law_draw) {k : Nat} {rec : FA} (h__law_bent : Fn P w K mg base (3 + k) "_law_bent" rec) : Fn P w K mg base (3 + (k + 1)) "_law_bent" (fnR 2 4 false (b__law_bent rec)) :=
  nfun (k := 3 + k) DD sc__law_bent fun f cdv A outer s H E hr => by
  have hu := hr.units
  have nd := sc__law_bent.nd
  exact (ns_seq (ns_if (nt_bo (nw_and (nt_val (n_isi .tup (n_var 1) n.n_isinstance n.n_tuple)) (nw_and (nt_cmp c_gt (n_callB b_len (n_cons (n_var 1) n_nil) n.n_len) n_int) (nw_and1 (nt_cmp c_gt (n_call h__law_draw (n_cons (n_var 0) (n_cons n_int n_nil)) hr) n_int))))) (ns_seq (ns_set 2 (n_call h__law_draw (n_cons (n_var 0) (n_cons (n_callB b_len (n_cons (n_var 1) n_nil) n.n_len) n_nil)) hr) nd)
  (ns_seq (ns_ret (n_bin o_add (n_bin o_add (n_sl (n_var 1) no_none (no_some (n_var 2))) (n_tup (n_cons (n_call h__law_bent (n_cons (n_var 0) (n_cons (n_it hu (n_var 1) (n_var 2)) n_nil)) hr) n_nil))) (n_sl (n_var 1) (no_some (n_bin o_add (n_var 2) n_int)) no_none)))
  ns_nil)) ns_nil)
  (ns_seq (ns_set 3 (n_call h__law_draw (n_cons (n_var 0) (n_cons n_int n_nil)) hr) nd)
  (ns_seq (ns_if (nt_val (n_isi .tup (n_var 1) n.n_isinstance n.n_tuple)) (ns_seq (ns_ret (n_it hu (n_lst (n_cons (n_bin o_add (n_var 1) (n_sl (n_var 1) no_none (no_some n_int))) (n_cons (n_sl (n_var 1) (no_some n_int) no_none) (n_cons (n_rev (n_var 1)) (n_cons (n_bin o_add (n_var 1) (n_tup (n_cons n_int n_nil))) (n_cons (n_bin o_add (n_sl (n_var 1) no_none (no_some n_int)) (n_var 1)) (n_cons (n_sl (n_var 1) no_none (no_some (n_neg n_int))) (n_cons n_non (n_cons (n_sl (n_var 1) no_none (no_some n_int)) n_nil))))))))) (n_var 3)))
  ns_nil) ns_nil)
  (ns_seq (ns_if (nt_bo (nw_and (nt_val (n_isi .int (n_var 1) n.n_isinstance n.n_int)) (nw_and1 (nt_not (nt_val (n_isi .bl (n_var 1) n.n_isinstance n.n_bool)))))) (ns_seq (ns_ret (n_it hu (n_lst (n_cons (n_bin o_add (n_var 1) n_int) (n_cons (n_bin o_sub (n_var 1) n_int) (n_cons (n_neg (n_var 1)) (n_cons (n_cmp (c_eq hu) (n_var 1) n_int) (n_cons n_non (n_cons (n_callT b_str (n_cons (n_var 1) n_nil) n.n_str) (n_cons (n_tup (n_cons (n_var 1) n_nil)) (n_cons (n_bin o_add (n_var 1) n_int) n_nil))))))))) (n_var 3)))
  ns_nil) ns_nil)
  (ns_seq (ns_if (nt_val (n_isi .str (n_var 1) n.n_isinstance n.n_str)) (ns_seq (ns_ret (n_it hu (n_lst (n_cons (n_bin o_add (n_var 1) n_str) (n_cons (n_sl (n_var 1) (no_some n_int) no_none) (n_cons n_str (n_cons (n_upper (n_var 1)) (n_cons n_int (n_cons n_str (n_cons (n_bin o_add (n_var 1) n_str) (n_cons (n_tup (n_cons (n_var 1) n_nil)) n_nil))))))))) (n_var 3)))
  ns_nil) ns_nil)
  (ns_seq (ns_ret (n_it hu (n_lst (n_cons n_int (n_cons n_int (n_cons n_non (n_cons n_bl (n_cons n_bl (n_cons n_str (n_cons (n_tup n_nil) (n_cons (n_neg n_int) n_nil))))))))) (n_var 3)))
  ns_nil))))))
theorem c__law_bent  (DD : Dfn K mg "_law_bent" s__law_bent ["box", "value"]) (n : Nm mg) (g : Gm mg) (h__law_draw : Fn P w K mg base 2 "_law_draw" m__law_draw) : ∀ k : Nat, Fn P w K mg base (3 + k) "_law_bent" (m__law_bent k)
  | 0 => (nfun_none (k := 0) DD sc__law_bent).mono (by omega)
  | k + 1 => cb__law_bent DD n g h__law_draw (c__law_bent DD n g h__law_draw k)
abbrev s__law_park : Stmt := topS 22
theorem sc__law_park : FnScope ["box", "most", "n", "ways", "place", "step", "i", "j"] ["box", "most"] (defScope s__law_park) := ⟨rfl, rfl, rfl, by decide +kernel, rfl, by decide +kernel, by decide +kernel⟩
theorem c__law_park  (DD : Dfn K mg "_law_park" s__law_park ["box", "most"]) (n : Nm mg) (g : Gm mg) (h__law_draw : Fn P w K mg base 2 "_law_draw" m__law_draw) : Fn P w K mg base 3 "_law_park" m__law_park :=
  nfun (k := 2) DD sc__law_park fun f cdv A outer s H E hr => by
  have hu := hr.units
  have nd := sc__law_park.nd
  exact (ns_seq (ns_par2 2 3 (n_cons (n_bin o_add n_int (n_call h__law_draw (n_cons (n_var 0) (n_cons (n_var 1) n_nil)) hr)) (n_cons (n_lst n_nil) n_nil)) nd)
  (ns_seq (ns_for (vs := [4]) (ni_rng2 (n_cons n_int (n_cons (n_var 2) n_nil)) n.n_range) (ng_name 4 nd) (ns_seq (ns_if (nt_cmp c_gt (n_call h__law_draw (n_cons (n_var 0) (n_cons n_int n_nil)) hr) n_int) (ns_seq (ns_expr (n_meth f_app (n_var 3) (n_cons (n_tup (n_cons (n_call h__law_draw (n_cons (n_var 0) (n_cons (n_var 4) n_nil)) hr) (n_cons (n_var 4) n_nil))) n_nil) PySem.F.slot_list_append PySem.F.type_list_append))
  ns_nil) ns_nil)
  ns_nil) PassesOwn.never)
  (ns_seq (ns_for (vs := [5]) (ni_rng1 (n_cons (n_call h__law_draw (n_cons (n_var 0) (n_cons (n_bin o_add (n_var 2) n_int) n_nil)) hr) n_nil) n.n_range) (ng_name 5 nd) (ns_seq (ns_par2 6 7 (n_cons (n_call h__law_draw (n_cons (n_var 0) (n_cons (n_var 2) n_nil)) hr) (n_cons (n_call h__law_draw (n_cons (n_var 0) (n_cons (n_var 2) n_nil)) hr) n_nil)) nd)
  (ns_seq (ns_if (nt_bo (nw_and (nt_cmp (c_ne hu) (n_var 6) (n_var 7)) (nw_and1 (nt_in (.inr ⟨rfl, rfl⟩) hu (n_tup (n_cons (n_callB (b_min2 rfl) (n_cons (n_var 6) (n_cons (n_var 7) n_nil)) n.n_min) (n_cons (n_callB (b_max2 rfl) (n_cons (n_var 6) (n_cons (n_var 7) n_nil)) n.n_max) n_nil))) (n_var 3))))) (ns_seq (ns_expr (n_meth f_app (n_var 3) (n_cons (n_tup (n_cons (n_callB (b_min2 rfl) (n_cons (n_var 6) (n_cons (n_var 7) n_nil)) n.n_min) (n_cons (n_callB (b_max2 rfl) (n_cons (n_var 6) (n_cons (n_var 7) n_nil)) n.n_max) n_nil))) n_nil) PySem.F.slot_list_append PySem.F.type_list_append))
  ns_nil) ns_nil)
  ns_nil)) PassesOwn.never)
  (ns_seq (ns_ret (n_tup (n_cons (n_var 2) (n_cons (n_callT b_tuple (n_cons (n_callB (b_sorted hu) (n_cons (n_var 3) n_nil) n.n_sorted) n_nil) n.n_tuple) n_nil))))
  ns_nil))))
abbrev s__law_near : Stmt := topS 23
theorem sc__law_near : FnScope ["park", "there", "place"] ["park"] (defScope s__law_near) := ⟨rfl, rfl, rfl, by decide +kernel, rfl, by decide +kernel, by decide +kernel⟩
theorem c__law_near  (DD : Dfn K mg "_law_near" s__law_near ["park"]) (n : Nm mg) (g : Gm mg)  : Fn P w K mg base 1 "_law_near" m__law_near :=
  nfun (k := 0) DD sc__law_near fun f cdv A outer s H E hr => by
  have hu := hr.units
  have nd := sc__law_near.nd
  exact (ns_seq (ns_ret (n_lc (ni_rng1 (n_cons (n_it hu (n_var 0) n_int) n_nil) n.n_range) (fun z => (ng_name 2 nd)) (fun z => nts_nil) (fun z => (n_lc (ni_rng1 (n_cons (n_it hu (n_var 0) n_int) n_nil) n.n_range) (fun z => (ng_name 1 nd)) (fun z => (nts_one (nt_bo (nw_or (nt_cmp (c_eq hu) (n_var 1) (n_var 2)) (nw_or1 (nt_in (.inl ⟨rfl, rfl⟩) hu (n_tup (n_cons (n_callB (b_min2 rfl) (n_cons (n_var 2) (n_cons (n_var 1) n_nil)) n.n_min) (n_cons (n_callB (b_max2 rfl) (n_cons (n_var 2) (n_cons (n_var 1) n_nil)) n.n_max) n_nil))) (n_it hu (n_var 0) n_int))))))) (fun z => (n_var 1)) nd (blkOk_by (own := [("there", 1)]) (by kernel_rfl)))) nd (blkOk_by (own := [("place", 2)]) (by kernel_rfl))))
  ns_nil)
abbrev s__law_is_corner : Stmt := topS 24
theorem sc__law_is_corner : FnScope ["rows", "left", "u", "v", "there"] ["rows", "left", "u", "v"] (defScope s__law_is_corner) := ⟨rfl, rfl, rfl, by decide +kernel, rfl, by decide +kernel, by decide +kernel⟩
theorem c__law_is_corner  (DD : Dfn K mg "_law_is_corner" s__law_is_corner ["rows", "left", "u", "v"]) (n : Nm mg) (g : Gm mg)  : Fn P w K mg base 1 "_law_is_corner" m__law_is_corner :=
  nfun (k := 0) DD sc__law_is_corner fun f cdv A outer s H E hr => by
  have hu := hr.units
  have nd := sc__law_is_corner.nd
  exact (ns_seq (ns_ret (n_and (n_cmp (c_ne hu) (n_var 2) (n_var 3)) (n_one (n_callB (b_all rfl) (n_cons (n_lc (ni_seq (n_it hu (n_var 0) (n_var 2))) (fun z => (ng_name 4 nd)) (fun z => (nts_one (nt_in (.inl ⟨rfl, rfl⟩) hu (n_var 4) (n_var 1)))) (fun z => (n_in (.inl ⟨rfl, rfl⟩) hu (n_var 4) (n_it hu (n_var 0) (n_var 3)))) nd (blkOk_by (own := [("there", 4)]) (by kernel_rfl))) n_nil) n.n_all))))
  ns_nil)
abbrev s__law_corners : Stmt := topS 25
theorem sc__law_corners : FnScope ["rows", "left", "v", "u"] ["rows", "left"] (defScope s__law_corners) := ⟨rfl, rfl, rfl, by decide +kernel, rfl, by decide +kernel, by decide +kernel⟩
theorem c__law_corners  (DD : Dfn K mg "_law_corners" s__law_corners ["rows", "left"]) (n : Nm mg) (g : Gm mg) (h__law_flat : Fn P w K mg base 1 "_law_flat" m__law_flat) (h__law_is_corner : Fn P w K mg base 1 "_law_is_corner" m__law_is_corner) : Fn P w K mg base 2 "_law_corners" m__law_corners :=
  nfun (k := 1) DD sc__law_corners fun f cdv A outer s H E hr => by
  have hu := hr.units
  have nd := sc__law_corners.nd
  exact (ns_seq (ns_ret (n_call h__law_flat (n_cons (n_lc (ni_seq (n_var 1)) (fun z => (ng_name 3 nd)) (fun z => nts_nil) (fun z => (n_lc (ni_seq (n_var 1)) (fun z => (ng_name 2 nd)) (fun z => (nts_one (nt_val (n_call h__law_is_corner (n_cons (n_var 0) (n_cons (n_var 1) (n_cons (n_var 3) (n_cons (n_var 2) n_nil)))) hr)))) (fun z => (n_tup (n_cons (n_var 3) (n_cons (n_var 2) n_nil)))) nd (blkOk_by (own := [("v", 2)]) (by kernel_rfl)))) nd (blkOk_by (own := [("u", 3)]) (by kernel_rfl))) n_nil) hr))
  ns_nil)
abbrev s__law_left : Stmt := topS 26
theorem sc__law_left : FnScope ["park", "value", "pair", "rows", "left", "u", "v", "place"] ["park", "value"] (defScope s__law_left) := ⟨rfl, rfl, rfl, by decide +kernel, rfl, by decide +kernel, by decide +kernel⟩
noncomputable def b__law_left : MS := (sSeq (sIf (tOr (tNot (tVal (eIsi .tup (eVar 1)))) (tNot (tVal (eCall bAll (aCons (eLc false [2] (iSeq (eVar 1)) (gName 2) tTrue (eAnd (eIsi .tup (eVar 2)) (eCmp cEq (eCall bLen (aCons (eVar 2) aNil)) (eC (.int 2))))) aNil))))) (sSeq (sRet (eC .none))
  sNil) sNil)
  (sSeq (sPar [3, 4] (aCons (eCall m__law_near (aCons (eVar 0) aNil)) (aCons (eLstR true (eIt (eVar 0) (eC (.int 0)))) aNil)))
  (sSeq (sFor (iSeq (eVar 1)) (gTup (gsLenOk 2 (gsCons (gName 5) (gsCons (gName 6) gsNil)))) (sSeq (sIf (tOr (tNot (tVal (eCall bAll (aCons (eLc false [7] (iTupl (eTup (aCons (eVar 5) (aCons (eVar 6) aNil)))) (gName 7) tTrue (eAnd (eIsi .int (eVar 7)) (eNot (eIsi .bl (eVar 7))))) aNil)))) (tOr (tCmp (cIn true) (eVar 5) (eVar 4)) (tOr (tCmp (cIn true) (eVar 6) (eVar 4)) (tNot (tVal (eCall m__law_is_corner (aCons (eVar 3) (aCons (eVar 4) (aCons (eVar 5) (aCons (eVar 6) aNil)))))))))) (sSeq (sRet (eC .none))
  sNil) sNil)
  (sSeq (sExpr (eMeth fRem (eVar 4) (aCons (eVar 5) aNil)))
  sNil)) [5, 6])
  (sSeq (sRet (eVar 4))
  sNil))))
noncomputable def m__law_left : FA := fnR 2 8 false b__law_left
theorem c__law_left  (DD : Dfn K mg "_law_left" s__law_left ["park", "value"]) (n : Nm mg) (g : Gm mg) (h__law_is_corner : Fn P w K mg base 1 "_law_is_corner" m__law_is_corner) (h__law_near : Fn P w K mg base 1 "_law_near" m__law_near) : Fn P w K mg base 2 "_law_left" m__law_left :=
  nfun (k := 1) DD sc__law_left fun f cdv A outer s H E hr => by
  have hu := hr.units
  have nd := sc__law_left.nd
  exact (ns_seq (ns_if (nt_bo (nw_or (nt_not (nt_val (n_isi .tup (n_var 1) n.n_isinstance n.n_tuple))) (nw_or1 (nt_not (nt_val (n_callB (b_all rfl) (n_cons (n_lc (ni_seq (n_var 1)) (fun z => (ng_name 2 nd)) (fun z => nts_nil) (fun z => (n_and (n_isi .tup (n_var 2) n.n_isinstance n.n_tuple) (n_one (n_cmp (c_eq hu) (n_callB b_len (n_cons (n_var 2) n_nil) n.n_len) n_int)))) nd (blkOk_by (own := [("pair", 2)]) (by kernel_rfl))) n_nil) n.n_all)))))) (ns_seq (ns_ret n_non)
  ns_nil) ns_nil)
  (ns_seq (ns_par2 3 4 (n_cons (n_call h__law_near (n_cons (n_var 0) n_nil) hr) (n_cons (n_lstR rfl (n_it hu (n_var 0) n_int) n.n_list n.n_range) n_nil)) nd)
  (ns_seq (ns_for (vs := [5, 6]) (ni_seq (n_var 1)) (ng_tup (ngs_cons (ng_name 5 nd) (ngs_cons (ng_name 6 nd) ngs_nil))) (ns_seq (ns_if (nt_bo (nw_or (nt_not (nt_val (n_callB (b_all rfl) (n_cons (n_lc (ni_tup (n_tup (n_cons (n_var 5) (n_cons (n_var 6) n_nil)))) (fun z => (ng_name 7 nd)) (fun z => nts_nil) (fun z => (n_and (n_isi .int (n_var 7) n.n_isinstance n.n_int) (n_one (n_not (n_isi .bl (n_var 7) n.n_isinstance n.n_bool))))) nd (blkOk_by (own := [("place", 7)]) (by kernel_rfl))) n_nil) n.n_all))) (nw_or (nt_in (.inr ⟨rfl, rfl⟩) hu (n_var 5) (n_var 4)) (nw_or (nt_in (.inr ⟨rfl, rfl⟩) hu (n_var 6) (n_var 4)) (nw_or1 (nt_not (nt_val (n_call h__law_is_corner (n_cons (n_var 3) (n_cons (n_var 4) (n_cons (n_var 5) (n_cons (n_var 6) n_nil)))) hr)))))))) (ns_seq (ns_ret n_non)
  ns_nil) ns_nil)
  (ns_seq (ns_expr (n_meth f_rem (n_var 4) (n_cons (n_var 5) n_nil) PySem.F.slot_list_remove PySem.F.type_list_remove))
  ns_nil)) PassesOwn.never)
  (ns_seq (ns_ret (n_var 4))
  ns_nil))))
abbrev s__law_apart : Stmt := topS 27
theorem sc__law_apart : FnScope ["box", "park", "rows", "left", "found", "some", "pair"] ["box", "park"] (defScope s__law_apart) := ⟨rfl, rfl, rfl, by decide +kernel, rfl, by decide +kernel, by decide +kernel⟩
theorem c__law_apart  (DD : Dfn K mg "_law_apart" s__law_apart ["box", "park"]) (n : Nm mg) (g : Gm mg) (h__law_corners : Fn P w K mg base 2 "_law_corners" m__law_corners) (h__law_draw : Fn P w K mg base 2 "_law_draw" m__law_draw) (h__law_near : Fn P w K mg base 1 "_law_near" m__law_near) : Fn P w K mg base 3 "_law_apart" m__law_apart :=
  nfun (k := 2) DD sc__law_apart fun f cdv A outer s H E hr => by
  have hu := hr.units
  have nd := sc__law_apart.nd
  exact (ns_seq (ns_par3 2 3 4 (n_cons (n_call h__law_near (n_cons (n_var 1) n_nil) hr) (n_cons (n_lstR rfl (n_it hu (n_var 1) n_int) n.n_list n.n_range) (n_cons (n_lst n_nil) n_nil))) nd)
  (ns_seq (ns_while (nt_bo (nw_and (nt_cmp c_gt (n_callB b_len (n_cons (n_var 3) n_nil) n.n_len) n_int) (nw_and1 (nt_cmp (c_ne hu) (n_call h__law_corners (n_cons (n_var 2) (n_cons (n_var 3) n_nil)) hr) (n_lst n_nil))))) (ns_seq (ns_set 5 (n_call h__law_corners (n_cons (n_var 2) (n_cons (n_var 3) n_nil)) hr) nd)
  (ns_seq (ns_set 6 (n_it hu (n_var 5) (n_call h__law_draw (n_cons (n_var 0) (n_cons (n_callB b_len (n_cons (n_var 5) n_nil) n.n_len) n_nil)) hr)) nd)
  (ns_seq (ns_expr (n_meth f_app (n_var 4) (n_cons (n_var 6) n_nil) PySem.F.slot_list_append PySem.F.type_list_append))
  (ns_seq (ns_expr (n_meth f_rem (n_var 3) (n_cons (n_it hu (n_var 6) n_int) n_nil) PySem.F.slot_list_remove PySem.F.type_list_remove))
  ns_nil)))) PassesOwn.never)
  (ns_seq (ns_ret (n_tup (n_cons (n_callT b_tuple (n_cons (n_var 4) n_nil) n.n_tuple) (n_cons (n_cmp (c_eq hu) (n_callB b_len (n_cons (n_var 3) n_nil) n.n_len) n_int) n_nil))))
  ns_nil)))
abbrev s__law_is_park : Stmt := topS 28
theorem sc__law_is_park : FnScope ["value", "way", "place", "k"] ["value"] (defScope s__law_is_park) := ⟨rfl, rfl, rfl, by decide +kernel, rfl, by decide +kernel, by decide +kernel⟩
noncomputable def b__law_is_park : MS := (sSeq (sIf (tOr (tNot (tVal (eIsi .tup (eVar 0)))) (tOr (tCmp cNe (eCall bLen (aCons (eVar 0) aNil)) (eC (.int 2))) (tOr (tNot (tVal (eIsi .int (eIt (eVar 0) (eC (.int 0)))))) (tOr (tVal (eIsi .bl (eIt (eVar 0) (eC (.int 0))))) (tOr (tNot (chK (fun i j => decide (i ≤ j)) (fun i j => decide (i ≤ j)) (eC (.int 1)) (eIt (eVar 0) (eC (.int 0))) (eC (.int 12)))) (tNot (tVal (eIsi .tup (eIt (eVar 0) (eC (.int 1))))))))))) (sSeq (sRet (eC (.bool false)))
  sNil) sNil)
  (sSeq (sFor (iSeq (eIt (eVar 0) (eC (.int 1)))) (gName 1) (sSeq (sIf (tOr (tNot (tVal (eIsi .tup (eVar 1)))) (tOr (tCmp cNe (eCall bLen (aCons (eVar 1) aNil)) (eC (.int 2))) (tOr (tNot (tVal (eCall bAll (aCons (eLc false [2] (iSeq (eVar 1)) (gName 2) tTrue (eAnd (eIsi .int (eVar 2)) (eAnd (eNot (eIsi .bl (eVar 2))) (eCh (fun i j => decide (i ≤ j)) (fun i j => decide (i < j)) (eC (.int 0)) (eVar 2) (eIt (eVar 0) (eC (.int 0))))))) aNil)))) (tCmp cGe (eIt (eVar 1) (eC (.int 0))) (eIt (eVar 1) (eC (.int 1))))))) (sSeq (sRet (eC (.bool false)))
  sNil) sNil)
  sNil) [1])
  (sSeq (sRet (eCall bAll (aCons (eLc false [3] (iRng1 (aCons (eBin oSub (eCall bLen (aCons (eIt (eVar 0) (eC (.int 1))) aNil)) (eC (.int 1))) aNil)) (gName 3) tTrue (eCmp cLtA (eIt (eIt (eVar 0) (eC (.int 1))) (eVar 3)) (eIt (eIt (eVar 0) (eC (.int 1))) (eBin (oAdd false) (eVar 3) (eC (.int 1)))))) aNil)))
  sNil)))
noncomputable def m__law_is_park : FA := fnR 1 4 false b__law_is_park
theorem c__law_is_park  (DD : Dfn K mg "_law_is_park" s__law_is_park ["value"]) (n : Nm mg) (g : Gm mg)  : Fn P w K mg base 1 "_law_is_park" m__law_is_park :=
  nfun (k := 0) DD sc__law_is_park fun f cdv A outer s H E hr => by
  have hu := hr.units
  have nd := sc__law_is_park.nd
  exact (ns_seq (ns_if (nt_bo (nw_or (nt_not (nt_val (n_isi .tup (n_var 0) n.n_isinstance n.n_tuple))) (nw_or (nt_cmp (c_ne hu) (n_callB b_len (n_cons (n_var 0) n_nil) n.n_len) n_int) (nw_or (nt_not (nt_val (n_isi .int (n_it hu (n_var 0) n_int) n.n_isinstance n.n_int))) (nw_or (nt_val (n_isi .bl (n_it hu (n_var 0) n_int) n.n_isinstance n.n_bool)) (nw_or (nt_not (nt_ch op_le op_le n_int (n_it hu (n_var 0) n_int) n_int)) (nw_or1 (nt_not (nt_val (n_isi .tup (n_it hu (n_var 0) n_int) n.n_isinstance n.n_tuple)))))))))) (ns_seq (ns_ret n_bl)
  ns_nil) ns_nil)
  (ns_seq (ns_for (vs := [1]) (ni_seq (n_it hu (n_var 0) n_int)) (ng_name 1 nd) (ns_seq (ns_if (nt_bo (nw_or (nt_not (nt_val (n_isi .tup (n_var 1) n.n_isinstance n.n_tuple))) (nw_or (nt_cmp (c_ne hu) (n_callB b_len (n_cons (n_var 1) n_nil) n.n_len) n_int) (nw_or (nt_not (nt_val (n_callB (b_all rfl) (n_cons (n_lc (ni_seq (n_var 1)) (fun z => (ng_name 2 nd)) (fun z => nts_nil) (fun z => (n_and (n_isi .int (n_var 2) n.n_isinstance n.n_int) (n_and (n_not (n_isi .bl (n_var 2) n.n_isinstance n.n_bool)) (n_one (n_ch op_le op_lt n_int (n_var 2) (n_it hu (n_var 0) n_int)))))) nd (blkOk_by (own := [("place", 2)]) (by kernel_rfl))) n_nil) n.n_all))) (nw_or1 (nt_cmp c_ge (n_it hu (n_var 1) n_int) (n_it hu (n_var 1) n_int))))))) (ns_seq (ns_ret n_bl)
  ns_nil) ns_nil)
  ns_nil) PassesOwn.never)
  (ns_seq (ns_ret (n_callB (b_all rfl) (n_cons (n_lc (ni_rng1 (n_cons (n_bin o_sub (n_callB b_len (n_cons (n_it hu (n_var 0) n_int) n_nil) n.n_len) n_int) n_nil) n.n_range) (fun z => (ng_name 3 nd)) (fun z => nts_nil) (fun z => (n_cmp (c_ltA hu) (n_it hu (n_it hu (n_var 0) n_int) (n_var 3)) (n_it hu (n_it hu (n_var 0) n_int) (n_bin o_add (n_var 3) n_int)))) nd (blkOk_by (own := [("k", 3)]) (by kernel_rfl))) n_nil) n.n_all))
  ns_nil)))
abbrev s__law_wins : Stmt := topS 29
theorem sc__law_wins : FnScope ["park", "rows", "n", "lost", "robber", "cop", "many", "place", "there"] ["park"] (defScope s__law_wins) := ⟨rfl, rfl, rfl, by decide +kernel, rfl, by decide +kernel, by decide +kernel⟩
noncomputable def b__law_wins : MS := (sSeq (sAsg (gTup (gsLenOk 2 (gsCons (gName 1) (gsCons (gName 2) gsNil)))) (eTup (aCons (eCall m__law_near (aCons (eVar 0) aNil)) (aCons (eIt (eVar 0) (eC (.int 0))) aNil))))
  (sSeq (sSet 3 (eCall m__law_flat_O (aCons (eLc false [5] (iRng1 (aCons (eVar 2) aNil)) (gName 5) tTrue (eLc false [4] (iRng1 (aCons (eVar 2) aNil)) (gName 4) (tCmp cEq (eVar 5) (eVar 4)) (eTup (aCons (eVar 5) (aCons (eVar 4) aNil))))) aNil)))
  (sSeq (sSet 6 (eC (.int 0)))
  (sSeq (sWhile (tCmp cLt (eVar 6) (eCall bLen (aCons (eVar 3) aNil))) (sSeq (sSet 6 (eCall bLen (aCons (eVar 3) aNil)))
  (sSeq (sFor (iRng1 (aCons (eVar 2) aNil)) (gName 5) (sSeq (sFor (iRng1 (aCons (eVar 2) aNil)) (gName 4) (sSeq (sIf (tAnd (tCmp (cIn true) (eTup (aCons (eVar 5) (aCons (eVar 4) aNil))) (eVar 3)) (tVal (eCall bAny (aCons (eLc false [8] (iSeq (eIt (eVar 1) (eVar 5))) (gName 8) tTrue (eOr (eCmp cEq (eVar 8) (eVar 4)) (eCall bAll (aCons (eLc false [7] (iSeq (eIt (eVar 1) (eVar 4))) (gName 7) tTrue (eCmp (cIn false) (eTup (aCons (eVar 8) (aCons (eVar 7) aNil))) (eVar 3))) aNil)))) aNil)))) (sSeq (sExpr (eMeth fApp (eVar 3) (aCons (eTup (aCons (eVar 5) (aCons (eVar 4) aNil))) aNil)))
  sNil) sNil)
  sNil) [])
  sNil) [])
  sNil)) [])
  (sSeq (sRet (eCall bAny (aCons (eLc false [5] (iRng1 (aCons (eVar 2) aNil)) (gName 5) tTrue (eCall bAll (aCons (eLc false [4] (iRng1 (aCons (eVar 2) aNil)) (gName 4) tTrue (eCmp (cIn false) (eTup (aCons (eVar 5) (aCons (eVar 4) aNil))) (eVar 3))) aNil))) aNil)))
  sNil)))))
noncomputable def m__law_wins : FA := fnR 1 9 false b__law_wins
theorem c__law_wins  (DD : Dfn K mg "_law_wins" s__law_wins ["park"]) (n : Nm mg) (g : Gm mg) (h__law_flat : Fn P w K mg base 1 "_law_flat" m__law_flat) (h__law_near : Fn P w K mg base 1 "_law_near" m__law_near) (ho__law_flat : Fn P w K mg base 1 "_law_flat" m__law_flat_O) : Fn P w K mg base 2 "_law_wins" m__law_wins :=
  nfun (k := 1) DD sc__law_wins fun f cdv A outer s H E hr => by
  have hu := hr.units
  have nd := sc__law_wins.nd
  exact (ns_seq (ns_asg (vs := [1, 2]) (n_tup (n_cons (n_call h__law_near (n_cons (n_var 0) n_nil) hr) (n_cons (n_it hu (n_var 0) n_int) n_nil))) (ng_tup (ngs_cons (ng_name 1 nd) (ngs_cons (ng_name 2 nd) ngs_nil))))
  (ns_seq (ns_set 3 (n_call ho__law_flat (n_cons (n_lc (ni_rng1 (n_cons (n_var 2) n_nil) n.n_range) (fun z => (ng_name 5 nd)) (fun z => nts_nil) (fun z => (n_lc (ni_rng1 (n_cons (n_var 2) n_nil) n.n_range) (fun z => (ng_name 4 nd)) (fun z => (nts_one (nt_cmp (c_eq hu) (n_var 5) (n_var 4)))) (fun z => (n_tup (n_cons (n_var 5) (n_cons (n_var 4) n_nil)))) nd (blkOk_by (own := [("robber", 4)]) (by kernel_rfl)))) nd (blkOk_by (own := [("cop", 5)]) (by kernel_rfl))) n_nil) hr) nd)
  (ns_seq (ns_set 6 n_int nd)
  (ns_seq (ns_while (nt_cmp c_lt (n_var 6) (n_callB b_len (n_cons (n_var 3) n_nil) n.n_len)) (ns_seq (ns_set 6 (n_callB b_len (n_cons (n_var 3) n_nil) n.n_len) nd)
  (ns_seq (ns_for (vs := [5]) (ni_rng1 (n_cons (n_var 2) n_nil) n.n_range) (ng_name 5 nd) (ns_seq (ns_for (vs := [4]) (ni_rng1 (n_cons (n_var 2) n_nil) n.n_range) (ng_name 4 nd) (ns_seq (ns_if (nt_bo (nw_and (nt_in (.inr ⟨rfl, rfl⟩) hu (n_tup (n_cons (n_var 5) (n_cons (n_var 4) n_nil))) (n_var 3)) (nw_and1 (nt_val (n_callB (b_any rfl) (n_cons (n_lc (ni_seq (n_it hu (n_var 1) (n_var 5))) (fun z => (ng_name 8 nd)) (fun z => nts_nil) (fun z => (n_or (n_cmp (c_eq hu) (n_var 8) (n_var 4)) (n_one (n_callB (b_all rfl) (n_cons (n_lc (ni_seq (n_it hu (n_var 1) (n_var 4))) (fun z => (ng_name 7 nd)) (fun z => nts_nil) (fun z => (n_in (.inl ⟨rfl, rfl⟩) hu (n_tup (n_cons (n_var 8) (n_cons (n_var 7) n_nil))) (n_var 3))) nd (blkOk_by (own := [("place", 7)]) (by kernel_rfl))) n_nil) n.n_all)))) nd (blkOk_by (own := [("there", 8)]) (by kernel_rfl))) n_nil) n.n_any))))) (ns_seq (ns_expr (n_meth f_app (n_var 3) (n_cons (n_tup (n_cons (n_var 5) (n_cons (n_var 4) n_nil))) n_nil) PySem.F.slot_list_append PySem.F.type_list_append))
  ns_nil) ns_nil)
  ns_nil) PassesOwn.never)
  ns_nil) PassesOwn.never)
  ns_nil)) PassesOwn.never)
  (ns_seq (ns_ret (n_callB (b_any rfl) (n_cons (n_lc (ni_rng1 (n_cons (n_var 2) n_nil) n.n_range) (fun z => (ng_name 5 nd)) (fun z => nts_nil) (fun z => (n_callB (b_all rfl) (n_cons (n_lc (ni_rng1 (n_cons (n_var 2) n_nil) n.n_range) (fun z => (ng_name 4 nd)) (fun z => nts_nil) (fun z => (n_in (.inl ⟨rfl, rfl⟩) hu (n_tup (n_cons (n_var 5) (n_cons (n_var 4) n_nil))) (n_var 3))) nd (blkOk_by (own := [("robber", 4)]) (by kernel_rfl))) n_nil) n.n_all)) nd (blkOk_by (own := [("cop", 5)]) (by kernel_rfl))) n_nil) n.n_any))
  ns_nil)))))
abbrev s__law_far : Stmt := topS 30
theorem sc__law_far : FnScope ["rows", "place", "far", "ring", "step", "there", "here"] ["rows", "place"] (defScope s__law_far) := ⟨rfl, rfl, rfl, by decide +kernel, rfl, by decide +kernel, by decide +kernel⟩
noncomputable def b__law_far : MS := (sSeq (sPar [2, 3, 4] (aCons (eDisp (ppV (eVar 1) (eC (.int 0)) ppN)) (aCons (eLst false (aCons (eVar 1) aNil)) (aCons (eC (.int 0)) aNil))))
  (sSeq (sWhile (tCmp cNe (eVar 3) (eLst false aNil)) (sSeq (sSet 4 (eBin (oAdd false) (eVar 4) (eC (.int 1))))
  (sSeq (sSet 3 (eLc false [5] (iSeq (eSrtSetI false (eCall m__law_flat (aCons (eLc false [6] (iSeq (eVar 3)) (gName 6) tTrue (eLc false [5] (iSeq (eIt (eVar 0) (eVar 6))) (gName 5) tTrue (eVar 5))) aNil)))) (gName 5) (tCmp (cIn true) (eVar 5) (eVar 2)) (eVar 5)))
  (sSeq (sExpr (eUpdK (eVar 2) (aCons (eLc false [5] (iSeq (eVar 3)) (gName 5) tTrue (eTup (aCons (eVar 5) (aCons (eVar 4) aNil)))) aNil)))
  sNil))) [])
  (sSeq (sRet (eCall bTuple (aCons (eLc false [5] (iRng1 (aCons (eCall bLen (aCons (eVar 0) aNil)) aNil)) (gName 5) tTrue (eGetK (eVar 2) (eVar 5))) aNil)))
  sNil)))
noncomputable def m__law_far : FA := fnR 2 7 false b__law_far
theorem c__law_far  (DD : Dfn K mg "_law_far" s__law_far ["rows", "place"]) (n : Nm mg) (g : Gm mg) (h__law_flat : Fn P w K mg base 1 "_law_flat" m__law_flat) : Fn P w K mg base 2 "_law_far" m__law_far :=
  nfun (k := 1) DD sc__law_far fun f cdv A outer s H E hr => by
  have hu := hr.units
  have nd := sc__law_far.nd
  exact (ns_seq (ns_parC3 2 3 4 (n_cons (n_disp (npp_consV (n_var 1) n_int npp_nil)) (n_cons (n_lst (n_cons (n_var 1) n_nil)) (n_cons n_int n_nil))) nd)
  (ns_seq (ns_while (nt_cmp (c_ne hu) (n_var 3) (n_lst n_nil)) (ns_seq (ns_set 4 (n_bin o_add (n_var 4) n_int) nd)
  (ns_seq (ns_setLc 3 (ni_seq (n_srtSetI (n_call h__law_flat (n_cons (n_lc (ni_seq (n_var 3)) (fun z => (ng_name 6 nd)) (fun z => nts_nil) (fun z => (n_lc (ni_seq (n_it hu (n_var 0) (n_var 6))) (fun z => (ng_name 5 nd)) (fun z => nts_nil) (fun z => (n_var 5)) nd (blkOk_by (own := [("there", 5)]) (by kernel_rfl)))) nd (blkOk_by (own := [("here", 6)]) (by kernel_rfl))) n_nil) hr) n.n_sorted n.n_set)) (fun z => (ng_name 5 nd)) (fun z => (nts_one (nt_in (.inr ⟨rfl, rfl⟩) hu (n_var 5) (n_var 2)))) (fun z => (n_var 5)) nd (blkOk_by (own := [("there", 5)]) (by kernel_rfl)))
  (ns_seq (ns_expr (n_updK (n_var 2) (n_cons (n_lc (ni_seq (n_var 3)) (fun z => (ng_name 5 nd)) (fun z => nts_nil) (fun z => (n_tup (n_cons (n_var 5) (n_cons (n_var 4) n_nil)))) nd (blkOk_by (own := [("there", 5)]) (by kernel_rfl))) n_nil)))
  ns_nil))) PassesOwn.never)
  (ns_seq (ns_ret (n_callT b_tuple (n_cons (n_lc (ni_rng1 (n_cons (n_callB b_len (n_cons (n_var 0) n_nil) n.n_len) n_nil) n.n_range) (fun z => (ng_name 5 nd)) (fun z => nts_nil) (fun z => (n_getK hu (n_var 2) (n_var 5))) nd (blkOk_by (own := [("there", 5)]) (by kernel_rfl))) n_nil) n.n_tuple))
  ns_nil)))
abbrev s__law_fine : Stmt := topS 31
theorem sc__law_fine : FnScope ["box", "park", "rows", "wins", "told", "pairs", "came_out", "left", "some", "place", "row", "values", "pair", "value", "turn", "remains", "due"] ["box", "park"] (defScope s__law_fine) := ⟨rfl, rfl, rfl, by decide +kernel, rfl, by decide +kernel, by decide +kernel⟩
noncomputable def b__law_fine : MS := (sSeq (sSet 2 (eCall m__law_near (aCons (eVar 1) aNil)))
  (sSeq (sPar [3, 4] (aCons (eCall m__law_wins (aCons (eVar 1) aNil)) (aCons (eCall m_take_apart (aCons (eVar 1) aNil)) aNil)))
  (sSeq (sAsg (gTup (gsLenOk 2 (gsCons (gName 5) (gsCons (gName 6) gsNil)))) (eCall m__law_apart (aCons (eVar 0) (aCons (eVar 1) aNil))))
  (sSeq (sIf (tOr (tNot (tVal (eIsi .tup (eVar 4)))) (tOr (tCmp cNe (eCall bLen (aCons (eVar 4) aNil)) (eC (.int 2))) (tOr (tNot (tVal (eCall (m__law_same 6) (aCons (eIt (eVar 4) (eC (.int 0))) (aCons (eIte (tVal (eVar 3)) (eC (.str "apart")) (eC (.str "stuck"))) aNil))))) (tCmp cNe (eVar 6) (eVar 3))))) (sSeq (sRet (eC (.bool false)))
  sNil) sNil)
  (sSeq (sSet 7 (eCall m__law_left (aCons (eVar 1) (aCons (eIt (eVar 4) (eC (.int 1))) aNil))))
  (sSeq (sIf (tOr (tCmp (cIsN false) (eVar 7) (eC .none)) (tOr (tCmp cNe (eCmp cEq (eCall bLen (aCons (eVar 7) aNil)) (eC (.int 1))) (eVar 3)) (tAnd (tNot (tVal (eVar 3))) (tCmp cNe (eCall m__law_corners (aCons (eVar 2) (aCons (eVar 7) aNil))) (eLst false aNil))))) (sSeq (sRet (eC (.bool false)))
  sNil) sNil)
  (sSeq (sSet 8 (eLc false [9] (iRng1 (aCons (eIt (eVar 1) (eC (.int 0))) aNil)) (gName 9) (tCmp cGt (eCall m__law_draw (aCons (eVar 0) (aCons (eC (.int 3)) aNil))) (eC (.int 0))) (eVar 9)))
  (sSeq (sIf (tOr (tNot (tVal (eCall (m__law_same 6) (aCons (eCall m_corners (aCons (eVar 1) (aCons (eCall bTuple (aCons (eVar 8) aNil)) aNil))) (aCons (eCall bTuple (aCons (eCall m__law_corners (aCons (eVar 2) (aCons (eVar 8) aNil))) aNil)) aNil))))) (tNot (tVal (eCall (m__law_same 6) (aCons (eCall m_near (aCons (eVar 1) aNil)) (aCons (eCall bTuple (aCons (eLc false [10] (iSeq (eVar 2)) (gName 10) tTrue (eCall bTuple (aCons (eVar 10) aNil))) aNil)) aNil)))))) (sSeq (sRet (eC (.bool false)))
  sNil) sNil)
  (sSeq (sSet 9 (eCall m__law_draw (aCons (eVar 0) (aCons (eIt (eVar 1) (eC (.int 0))) aNil))))
  (sSeq (sIf (tNot (tVal (eCall (m__law_same 6) (aCons (eCall m_steps_from (aCons (eVar 1) (aCons (eVar 9) aNil))) (aCons (eCall m__law_far (aCons (eVar 2) (aCons (eVar 9) aNil))) aNil))))) (sSeq (sRet (eC (.bool false)))
  sNil) sNil)
  (sSeq (sSet 11 (eLst false (aCons (eIt (eVar 4) (eC (.int 1))) (aCons (eVar 5) (aCons (eSl false (eVar 5) (oSome (eC (.int 1))) oNone) (aCons (eSl false (eVar 5) oNone (oSome (eNeg (eC (.int 1))))) (aCons (eRev false (eVar 5)) (aCons (eBin (oAdd false) (eVar 5) (eSl false (eVar 5) oNone (oSome (eC (.int 1))))) (aCons (eTup aNil) (aCons (eC .none) (aCons (eIt (eVar 1) (eC (.int 0))) (aCons (eC (.str "apart")) (aCons (eTup (aCons (eTup (aCons (eC (.int 0)) (aCons (eC (.int 0)) aNil))) aNil)) (aCons (eTup (aCons (eTup (aCons (eC (.int 0)) (aCons (eC (.int 1)) aNil))) aNil)) (aCons (eCall bTuple (aCons (eLc false [12] (iSeq (eVar 5)) (gName 12) tTrue (eRev false (eVar 12))) aNil)) aNil)))))))))))))))
  (sSeq (sFor (iSeq (eBin (oAdd false) (eVar 11) (eLc false [14] (iRng1 (aCons (eC (.int 8)) aNil)) (gName 14) tTrue (eCall (m__law_bent 6) (aCons (eVar 0) (aCons (eVar 5) aNil)))))) (gName 13) (sSeq (sSet 15 (eCall m__law_left (aCons (eVar 1) (aCons (eVar 13) aNil))))
  (sSeq (sSet 16 (eTup (aCons (eAnd (eCmp (cIsN true) (eVar 15) (eC .none)) (eCmp cEq (eCall bLen (aCons (eVar 15) aNil)) (eC (.int 1)))) (aCons (eAnd (eCmp (cIsN true) (eVar 15) (eC .none)) (eAnd (eCmp cGt (eCall bLen (aCons (eVar 15) aNil)) (eC (.int 1))) (eCmp cEq (eCall m__law_corners (aCons (eVar 2) (aCons (eVar 15) aNil))) (eLst false aNil)))) aNil))))
  (sSeq (sIf (tOr (tNot (tVal (eCall (m__law_same 6) (aCons (eTup (aCons (eCall m_is_apart (aCons (eVar 1) (aCons (eVar 13) aNil))) (aCons (eCall m_is_stuck (aCons (eVar 1) (aCons (eVar 13) aNil))) aNil))) (aCons (eVar 16) aNil))))) (tOr (tAnd (tVal (eIt (eVar 16) (eC (.int 0)))) (tNot (tVal (eVar 3)))) (tAnd (tVal (eIt (eVar 16) (eC (.int 1)))) (tVal (eVar 3))))) (sSeq (sRet (eC (.bool false)))
  sNil) sNil)
  sNil))) [13, 15, 16])
  (sSeq (sSet 11 (eLst false (aCons (eVar 1) (aCons (eRev false (eVar 1)) (aCons (eTup (aCons (eBin (oAdd false) (eIt (eVar 1) (eC (.int 0))) (eC (.int 1))) (aCons (eIt (eVar 1) (eC (.int 1))) aNil))) (aCons (eTup (aCons (eBin oSub (eIt (eVar 1) (eC (.int 0))) (eC (.int 1))) (aCons (eIt (eVar 1) (eC (.int 1))) aNil))) (aCons (eTup (aCons (eC (.int 12)) (aCons (eIt (eVar 1) (eC (.int 1))) aNil))) (aCons (eTup (aCons (eC (.int 13)) (aCons (eIt (eVar 1) (eC (.int 1))) aNil))) (aCons (eTup (aCons (eIt (eVar 1) (eC (.int 0))) (aCons (eRev false (eIt (eVar 1) (eC (.int 1)))) aNil))) (aCons (eSl false (eVar 1) oNone (oSome (eC (.int 1)))) (aCons (eC .none) (aCons (eTup (aCons (eC (.int 0)) (aCons (eTup aNil) aNil))) (aCons (eTup (aCons (eC (.int 1)) (aCons (eTup aNil) aNil))) aNil)))))))))))))
  (sSeq (sFor (iSeq (eBin (oAdd false) (eVar 11) (eLc false [14] (iRng1 (aCons (eC (.int 6)) aNil)) (gName 14) tTrue (eCall (m__law_bent 6) (aCons (eVar 0) (aCons (eVar 1) aNil)))))) (gName 13) (sSeq (sIf (tNot (tVal (eCall (m__law_same 6) (aCons (eCall m_is_park (aCons (eVar 13) aNil)) (aCons (eCall m__law_is_park (aCons (eVar 13) aNil)) aNil))))) (sSeq (sRet (eC (.bool false)))
  sNil) sNil)
  sNil) [13])
  (sSeq (sRet (eC (.bool true)))
  sNil)))))))))))))))
noncomputable def m__law_fine : FA := fnR 2 17 false b__law_fine
theorem c__law_fine  (DD : Dfn K mg "_law_fine" s__law_fine ["box", "park"]) (n : Nm mg) (g : Gm mg) (h__law_apart : Fn P w K mg base 3 "_law_apart" m__law_apart) (h__law_bent : Fn P w K mg base 9 "_law_bent" (m__law_bent 6)) (h__law_corners : Fn P w K mg base 2 "_law_corners" m__law_corners) (h__law_draw : Fn P w K mg base 2 "_law_draw" m__law_draw) (h__law_far : Fn P w K mg base 2 "_law_far" m__law_far) (h__law_is_park : Fn P w K mg base 1 "_law_is_park" m__law_is_park) (h__law_left : Fn P w K mg base 2 "_law_left" m__law_left) (h__law_near : Fn P w K mg base 1 "_law_near" m__law_near) (h__law_same : Fn P w K mg base 7 "_law_same" (m__law_same 6)) (h__law_wins : Fn P w K mg base 2 "_law_wins" m__law_wins) (h_corners : Fn P w K mg base 2 "corners" m_corners) (h_is_apart : Fn P w K mg base 3 "is_apart" m_is_apart) (h_is_park : Fn P w K mg base 3 "is_park" m_is_park) (h_is_stuck : Fn P w K mg base 3 "is_stuck" m_is_stuck) (h_near : Fn P w K mg base 1 "near" m_near) (h_steps_from : Fn P w K mg base 2 "steps_from" m_steps_from) (h_take_apart : Fn P w K mg base 3 "take_apart" m_take_apart) : Fn P w K mg base 10 "_law_fine" m__law_fine :=
  nfun (k := 9) DD sc__law_fine fun f cdv A outer s H E hr => by
  have hu := hr.units
  have nd := sc__law_fine.nd
  exact (ns_seq (ns_set 2 (n_call h__law_near (n_cons (n_var 1) n_nil) hr) nd)
  (ns_seq (ns_par2 3 4 (n_cons (n_call h__law_wins (n_cons (n_var 1) n_nil) hr) (n_cons (n_call h_take_apart (n_cons (n_var 1) n_nil) hr) n_nil)) nd)
  (ns_seq (ns_asg (vs := [5, 6]) (n_call h__law_apart (n_cons (n_var 0) (n_cons (n_var 1) n_nil)) hr) (ng_tup (ngs_cons (ng_name 5 nd) (ngs_cons (ng_name 6 nd) ngs_nil))))
  (ns_seq (ns_if (nt_bo (nw_or (nt_not (nt_val (n_isi .tup (n_var 4) n.n_isinstance n.n_tuple))) (nw_or (nt_cmp (c_ne hu) (n_callB b_len (n_cons (n_var 4) n_nil) n.n_len) n_int) (nw_or (nt_not (nt_val (n_call h__law_same (n_cons (n_it hu (n_var 4) n_int) (n_cons (n_ite (nt_val (n_var 3)) n_str n_str) n_nil)) hr))) (nw_or1 (nt_cmp (c_ne hu) (n_var 6) (n_var 3))))))) (ns_seq (ns_ret n_bl)
  ns_nil) ns_nil)
  (ns_seq (ns_set 7 (n_call h__law_left (n_cons (n_var 1) (n_cons (n_it hu (n_var 4) n_int) n_nil)) hr) nd)
  (ns_seq (ns_if (nt_bo (nw_or (nt_cmp c_is (n_var 7) n_non) (nw_or (nt_cmp (c_ne hu) (n_cmp (c_eq hu) (n_callB b_len (n_cons (n_var 7) n_nil) n.n_len) n_int) (n_var 3)) (nw_or1 (nt_bo (nw_and (nt_not (nt_val (n_var 3))) (nw_and1 (nt_cmp (c_ne hu) (n_call h__law_corners (n_cons (n_var 2) (n_cons (n_var 7) n_nil)) hr) (n_lst n_nil))))))))) (ns_seq (ns_ret n_bl)
  ns_nil) ns_nil)
  (ns_seq (ns_setLc 8 (ni_rng1 (n_cons (n_it hu (n_var 1) n_int) n_nil) n.n_range) (fun z => (ng_name 9 nd)) (fun z => (nts_one (nt_cmp c_gt (n_call h__law_draw (n_cons (n_var 0) (n_cons n_int n_nil)) hr) n_int))) (fun z => (n_var 9)) nd (blkOk_by (own := [("place", 9)]) (by kernel_rfl)))
  (ns_seq (ns_if (nt_bo (nw_or (nt_not (nt_val (n_call h__law_same (n_cons (n_call h_corners (n_cons (n_var 1) (n_cons (n_callT b_tuple (n_cons (n_var 8) n_nil) n.n_tuple) n_nil)) hr) (n_cons (n_callT b_tuple (n_cons (n_call h__law_corners (n_cons (n_var 2) (n_cons (n_var 8) n_nil)) hr) n_nil) n.n_tuple) n_nil)) hr))) (nw_or1 (nt_not (nt_val (n_call h__law_same (n_cons (n_call h_near (n_cons (n_var 1) n_nil) hr) (n_cons (n_callT b_tuple (n_cons (n_lc (ni_seq (n_var 2)) (fun z => (ng_name 10 nd)) (fun z => nts_nil) (fun z => (n_callT b_tuple (n_cons (n_var 10) n_nil) n.n_tuple)) nd (blkOk_by (own := [("row", 10)]) (by kernel_rfl))) n_nil) n.n_tuple) n_nil)) hr)))))) (ns_seq (ns_ret n_bl)
  ns_nil) ns_nil)
  (ns_seq (ns_set 9 (n_call h__law_draw (n_cons (n_var 0) (n_cons (n_it hu (n_var 1) n_int) n_nil)) hr) nd)
  (ns_seq (ns_if (nt_not (nt_val (n_call h__law_same (n_cons (n_call h_steps_from (n_cons (n_var 1) (n_cons (n_var 9) n_nil)) hr) (n_cons (n_call h__law_far (n_cons (n_var 2) (n_cons (n_var 9) n_nil)) hr) n_nil)) hr))) (ns_seq (ns_ret n_bl)
  ns_nil) ns_nil)
  (ns_seq (ns_set 11 (n_lst (n_cons (n_it hu (n_var 4) n_int) (n_cons (n_var 5) (n_cons (n_sl (n_var 5) (no_some n_int) no_none) (n_cons (n_sl (n_var 5) no_none (no_some (n_neg n_int))) (n_cons (n_rev (n_var 5)) (n_cons (n_bin o_add (n_var 5) (n_sl (n_var 5) no_none (no_some n_int))) (n_cons (n_tup n_nil) (n_cons n_non (n_cons (n_it hu (n_var 1) n_int) (n_cons n_str (n_cons (n_tup (n_cons (n_tup (n_cons n_int (n_cons n_int n_nil))) n_nil)) (n_cons (n_tup (n_cons (n_tup (n_cons n_int (n_cons n_int n_nil))) n_nil)) (n_cons (n_callT b_tuple (n_cons (n_lc (ni_seq (n_var 5)) (fun z => (ng_name 12 nd)) (fun z => nts_nil) (fun z => (n_rev (n_var 12))) nd (blkOk_by (own := [("pair", 12)]) (by kernel_rfl))) n_nil) n.n_tuple) n_nil)))))))))))))) nd)
  (ns_seq (ns_for (vs := [13]) (ni_seq (n_bin o_add (n_var 11) (n_lc (ni_rng1 (n_cons n_int n_nil) n.n_range) (fun z => (ng_name 14 nd)) (fun z => nts_nil) (fun z => (n_call h__law_bent (n_cons (n_var 0) (n_cons (n_var 5) n_nil)) hr)) nd (blkOk_by (own := [("turn", 14)]) (by kernel_rfl))))) (ng_name 13 nd) (ns_seq (ns_set 15 (n_call h__law_left (n_cons (n_var 1) (n_cons (n_var 13) n_nil)) hr) nd)
  (ns_seq (ns_set 16 (n_tup (n_cons (n_and (n_cmp c_isnot (n_var 15) n_non) (n_one (n_cmp (c_eq hu) (n_callB b_len (n_cons (n_var 15) n_nil) n.n_len) n_int))) (n_cons (n_and (n_cmp c_isnot (n_var 15) n_non) (n_and (n_cmp c_gt (n_callB b_len (n_cons (n_var 15) n_nil) n.n_len) n_int) (n_one (n_cmp (c_eq hu) (n_call h__law_corners (n_cons (n_var 2) (n_cons (n_var 15) n_nil)) hr) (n_lst n_nil))))) n_nil))) nd)
  (ns_seq (ns_if (nt_bo (nw_or (nt_not (nt_val (n_call h__law_same (n_cons (n_tup (n_cons (n_call h_is_apart (n_cons (n_var 1) (n_cons (n_var 13) n_nil)) hr) (n_cons (n_call h_is_stuck (n_cons (n_var 1) (n_cons (n_var 13) n_nil)) hr) n_nil))) (n_cons (n_var 16) n_nil)) hr))) (nw_or (nt_bo (nw_and (nt_val (n_it hu (n_var 16) n_int)) (nw_and1 (nt_not (nt_val (n_var 3)))))) (nw_or1 (nt_bo (nw_and (nt_val (n_it hu (n_var 16) n_int)) (nw_and1 (nt_val (n_var 3))))))))) (ns_seq (ns_ret n_bl)
  ns_nil) ns_nil)
  ns_nil))) PassesOwn.never)
  (ns_seq (ns_set 11 (n_lst (n_cons (n_var 1) (n_cons (n_rev (n_var 1)) (n_cons (n_tup (n_cons (n_bin o_add (n_it hu (n_var 1) n_int) n_int) (n_cons (n_it hu (n_var 1) n_int) n_nil))) (n_cons (n_tup (n_cons (n_bin o_sub (n_it hu (n_var 1) n_int) n_int) (n_cons (n_it hu (n_var 1) n_int) n_nil))) (n_cons (n_tup (n_cons n_int (n_cons (n_it hu (n_var 1) n_int) n_nil))) (n_cons (n_tup (n_cons n_int (n_cons (n_it hu (n_var 1) n_int) n_nil))) (n_cons (n_tup (n_cons (n_it hu (n_var 1) n_int) (n_cons (n_rev (n_it hu (n_var 1) n_int)) n_nil))) (n_cons (n_sl (n_var 1) no_none (no_some n_int)) (n_cons n_non (n_cons (n_tup (n_cons n_int (n_cons (n_tup n_nil) n_nil))) (n_cons (n_tup (n_cons n_int (n_cons (n_tup n_nil) n_nil))) n_nil)))))))))))) nd)
  (ns_seq (ns_for (vs := [13]) (ni_seq (n_bin o_add (n_var 11) (n_lc (ni_rng1 (n_cons n_int n_nil) n.n_range) (fun z => (ng_name 14 nd)) (fun z => nts_nil) (fun z => (n_call h__law_bent (n_cons (n_var 0) (n_cons (n_var 1) n_nil)) hr)) nd (blkOk_by (own := [("turn", 14)]) (by kernel_rfl))))) (ng_name 13 nd) (ns_seq (ns_if (nt_not (nt_val (n_call h__law_same (n_cons (n_call h_is_park (n_cons (n_var 13) n_nil) hr) (n_cons (n_call h__law_is_park (n_cons (n_var 13) n_nil) hr) n_nil)) hr))) (ns_seq (ns_ret n_bl)
  ns_nil) ns_nil)
  ns_nil) PassesOwn.never)
  (ns_seq (ns_ret n_bl)
  ns_nil)))))))))))))))
abbrev s_law : Stmt := topS 32
theorem sc_law : FnScope ["script", "box", "turn"] ["script"] (defScope s_law) := ⟨rfl, rfl, rfl, by decide +kernel, rfl, by decide +kernel, by decide +kernel⟩
noncomputable def b_law : MS := (sSeq (sSet 1 (eCall m__law_box (aCons (eVar 0) aNil)))
  (sSeq (sIf (tCmp cNe (eC (.int 12)) (eC (.int 12))) (sSeq (sRet (eC (.bool false)))
  sNil) sNil)
  (sSeq (sFor (iRng1 (aCons (eC (.int 4)) aNil)) (gName 2) (sSeq (sIf (tNot (tVal (eCall m__law_fine (aCons (eVar 1) (aCons (eCall m__law_park (aCons (eVar 1) (aCons (eIt (eLst false (aCons (eC (.int 3)) (aCons (eC (.int 5)) (aCons (eC (.int 7)) (aCons (eC (.int 7)) aNil))))) (eVar 2)) aNil))) aNil))))) (sSeq (sRet (eC (.bool false)))
  sNil) sNil)
  sNil) [2])
  (sSeq (sRet (eAnd (eCall m__law_fine (aCons (eVar 1) (aCons (eTup (aCons (eC (.int 4)) (aCons (eTup (aCons (eTup (aCons (eC (.int 0)) (aCons (eC (.int 1)) aNil))) (aCons (eTup (aCons (eC (.int 0)) (aCons (eC (.int 3)) aNil))) (aCons (eTup (aCons (eC (.int 1)) (aCons (eC (.int 2)) aNil))) (aCons (eTup (aCons (eC (.int 2)) (aCons (eC (.int 3)) aNil))) aNil))))) aNil))) aNil))) (eAnd (eCall m__law_fine (aCons (eVar 1) (aCons (eTup (aCons (eC (.int 1)) (aCons (eTup aNil) aNil))) aNil))) (eCall (m__law_same 6) (aCons (eCall m_take_apart (aCons (eTup (aCons (eC (.int 3)) (aCons (eTup (aCons (eTup (aCons (eC (.int 0)) (aCons (eC (.int 1)) aNil))) (aCons (eTup (aCons (eC (.int 1)) (aCons (eC (.int 2)) aNil))) aNil))) aNil))) aNil)) (aCons (eTup (aCons (eC (.str "apart")) (aCons (eTup (aCons (eTup (aCons (eC (.int 0)) (aCons (eC (.int 1)) aNil))) (aCons (eTup (aCons (eC (.int 1)) (aCons (eC (.int 2)) aNil))) aNil))) aNil))) aNil))))))
  sNil))))
noncomputable def m_law : FA := fnR 1 3 false b_law
theorem c_law {f : Addr} {fd : FuncData} (FF : Fun K "law" "law" s_law f fd) (n : Nm mg) (g : Gm mg) (h__law_box : Fn P w K mg base 1 "_law_box" m__law_box) (h__law_fine : Fn P w K mg base 10 "_law_fine" m__law_fine) (h__law_park : Fn P w K mg base 3 "_law_park" m__law_park) (h__law_same : Fn P w K mg base 7 "_law_same" (m__law_same 6)) (h_take_apart : Fn P w K mg base 3 "take_apart" m_take_apart) (run : ∀ ns : List Int, ns.length ≤ 63 → ∃ s', m_law [] [.d (.list (ns.map .int))] = some (.d (.bool true), s')) : FnOk P w K mg base CX0 11 f fd ["script"] (spE K) :=
  law_fn (k := 10) (M := b_law) FF sc_law (fun f cdv A outer s H E hr => by
  have hu := hr.units
  have nd := sc_law.nd
  exact (ns_seq (ns_set 1 (n_call h__law_box (n_cons (n_var 0) n_nil) hr) nd)
  (ns_seq (ns_if (nt_cmp (c_ne hu) (n_glob g.MAX_PARK) n_int) (ns_seq (ns_ret n_bl)
  ns_nil) ns_nil)
  (ns_seq (ns_for (vs := [2]) (ni_rng1 (n_cons n_int n_nil) n.n_range) (ng_name 2 nd) (ns_seq (ns_if (nt_not (nt_val (n_call h__law_fine (n_cons (n_var 1) (n_cons (n_call h__law_park (n_cons (n_var 1) (n_cons (n_it hu (n_lst (n_cons n_int (n_cons n_int (n_cons n_int (n_cons n_int n_nil))))) (n_var 2)) n_nil)) hr) n_nil)) hr))) (ns_seq (ns_ret n_bl)
  ns_nil) ns_nil)
  ns_nil) PassesOwn.never)
  (ns_seq (ns_ret (n_and (n_call h__law_fine (n_cons (n_var 1) (n_cons (n_tup (n_cons n_int (n_cons (n_tup (n_cons (n_tup (n_cons n_int (n_cons n_int n_nil))) (n_cons (n_tup (n_cons n_int (n_cons n_int n_nil))) (n_cons (n_tup (n_cons n_int (n_cons n_int n_nil))) (n_cons (n_tup (n_cons n_int (n_cons n_int n_nil))) n_nil))))) n_nil))) n_nil)) hr) (n_and (n_call h__law_fine (n_cons (n_var 1) (n_cons (n_tup (n_cons n_int (n_cons (n_tup n_nil) n_nil))) n_nil)) hr) (n_one (n_call h__law_same (n_cons (n_call h_take_apart (n_cons (n_tup (n_cons n_int (n_cons (n_tup (n_cons (n_tup (n_cons n_int (n_cons n_int n_nil))) (n_cons (n_tup (n_cons n_int (n_cons n_int n_nil))) n_nil))) n_nil))) n_nil) hr) (n_cons (n_tup (n_cons n_str (n_cons (n_tup (n_cons (n_tup (n_cons n_int (n_cons n_int n_nil))) (n_cons (n_tup (n_cons n_int (n_cons n_int n_nil))) n_nil))) n_nil))) n_nil)) hr)))))
  ns_nil))))) run
end T72

namespace Pk

/-- the cop, whose turn it is, catches -/
inductive Lost (A : Nat → Nat → Prop) (L : List Nat) : Nat → Nat → Prop
  | take (c r : Nat) : c ∈ L → r ∈ L → A c r → Lost A L c r
  | step (c r t : Nat) : c ∈ L → r ∈ L → t ∈ L → A c t → (∀ p ∈ L, A r p → Lost A L t p) → Lost A L c r
def Wins (A : Nat → Nat → Prop) (L : List Nat) : Prop := ∃ c ∈ L, ∀ r ∈ L, Lost A L c r
structure Corner (A : Nat → Nat → Prop) (L : List Nat) (u v : Nat) : Prop where
  ne : u ≠ v
  hu : u ∈ L
  hv : v ∈ L
  sees : ∀ t ∈ L, A u t → A v t
section
variable {A : Nat → Nat → Prop} {L : List Nat} {u v : Nat}
/-- where the corner is seen from -/
def fold (u v x : Nat) : Nat := if x = u then v else x
theorem fold_mem (nd : L.Nodup) (h : Corner A L u v) {x : Nat} (hx : x ∈ L) : fold u v x ∈ L.erase u := by
  unfold fold
  split
  · exact (nd.mem_erase_iff).mpr ⟨fun e => h.ne e.symm, h.hv⟩
  · rename_i e
    exact (nd.mem_erase_iff).mpr ⟨e, hx⟩
theorem fold_hom (rf : ∀ x, A x x) (sy : ∀ x y, A x y → A y x) (h : Corner A L u v) {x y : Nat} (hx : x ∈ L) (hy : y ∈ L) (a : A x y) : A (fold u v x) (fold u v y) := by
  unfold fold
  by_cases e1 : x = u
  · by_cases e2 : y = u
    · rw [if_pos e1, if_pos e2]; exact rf v
    · rw [if_pos e1, if_neg e2]; subst e1; exact h.sees y hy a
  · by_cases e2 : y = u
    · rw [if_neg e1, if_pos e2]; subst e2; exact sy _ _ (h.sees x hx (sy _ _ a))
    · rw [if_neg e1, if_neg e2]; exact a
theorem fold_id (u v : Nat) {x : Nat} (h : x ≠ u) : fold u v x = x := by unfold fold; rw [if_neg h]
theorem lost_up (rf : ∀ x, A x x) (sy : ∀ x y, A x y → A y x) (nd : L.Nodup) (h : Corner A L u v) {c q : Nat} (hl : Lost A (L.erase u) c q) : ∀ r ∈ L, fold u v r = q → Lost A L c r := by
  have me : ∀ {x}, x ∈ L.erase u → x ≠ u ∧ x ∈ L := fun hx => nd.mem_erase_iff.mp hx
  induction hl with
  | take c q hc hq ha =>
    intro r hr e
    by_cases er : r = u
    · subst er
      have eq : q = v := by rw [← e]; unfold fold; rw [if_pos rfl]
      subst eq
      refine .step c r q (me hc).2 hr h.hv ha fun p hp hrp => .take q p h.hv hp (h.sees p hp hrp)
    · have eq : r = q := by rw [← e, fold_id u v er]
      subst eq
      exact .take c r (me hc).2 hr ha
  | step c q t hc hq ht ha _ ih =>
    intro r hr e
    refine .step c r t (me hc).2 hr (me ht).2 ha fun p hp hrp => ?_
    refine ih (fold u v p) (fold_mem nd h hp) ?_ p hp rfl
    rw [← e]
    exact fold_hom rf sy h hr hp hrp
theorem lost_down (rf : ∀ x, A x x) (sy : ∀ x y, A x y → A y x) (nd : L.Nodup) (h : Corner A L u v) {c r : Nat} (hl : Lost A L c r) (hr : r ≠ u) : Lost A (L.erase u) (fold u v c) r := by
  have me : ∀ {x}, x ≠ u → x ∈ L → x ∈ L.erase u := fun h1 h2 => nd.mem_erase_iff.mpr ⟨h1, h2⟩
  have un : ∀ {x}, x ∈ L.erase u → x ≠ u ∧ x ∈ L := fun hx => nd.mem_erase_iff.mp hx
  induction hl with
  | take c r hc hr' ha =>
    refine .take _ _ (fold_mem nd h hc) (me hr hr') ?_
    have := fold_hom rf sy h hc hr' ha
    rwa [fold_id u v hr] at this
  | step c r t hc hr' ht ha _ ih =>
    refine .step _ _ (fold u v t) (fold_mem nd h hc) (me hr hr') (fold_mem nd h ht) (fold_hom rf sy h hc ht ha) fun p hp hrp => ih p (un hp).2 hrp (un hp).1
theorem wins_corner (rf : ∀ x, A x x) (sy : ∀ x y, A x y → A y x) (nd : L.Nodup) (h : Corner A L u v) : Wins A (L.erase u) ↔ Wins A L := by
  constructor
  · rintro ⟨c, hc, hw⟩
    refine ⟨c, (nd.mem_erase_iff.mp hc).2, fun r hr => lost_up rf sy nd h (hw _ (fold_mem nd h hr)) r hr rfl⟩
  · rintro ⟨c, hc, hw⟩
    refine ⟨fold u v c, fold_mem nd h hc, fun r hr => ?_⟩
    have := nd.mem_erase_iff.mp hr
    exact lost_down rf sy nd h (hw r this.2) this.1
theorem wins_one (rf : ∀ x, A x x) (h : L.length = 1) : Wins A L := by
  match L, h with
  | [c], _ => exact ⟨c, List.mem_singleton_self c, fun r hr => by rw [List.mem_singleton.mp hr]; exact .take c c (List.mem_singleton_self c) (List.mem_singleton_self c) (rf c)⟩
theorem stuck_far (hc : ∀ u v, ¬ Corner A L u v) {c r : Nat} (hl : Lost A L c r) : A c r := by
  induction hl with
  | take c r _ _ ha => exact ha
  | step c r t hc' hr ht ha _ ih =>
    by_cases e : r = t
    · rw [e]; exact ha
    · exact (hc r t ⟨e, hr, ht, fun p hp hrp => ih p hp hrp⟩).elim
theorem stuck_lost (hc : ∀ u v, ¬ Corner A L u v) (nd : L.Nodup) (hl : 1 < L.length) : ¬ Wins A L := by
  rintro ⟨c, h1, h2⟩
  obtain ⟨r, hr, ne⟩ : ∃ r ∈ L, r ≠ c := by
    match L, nd, hl with
    | a :: b :: l, nd, _ =>
      by_cases e : a = c
      · refine ⟨b, by simp, fun e2 => ?_⟩
        rw [List.nodup_cons] at nd
        exact nd.1 (by rw [e, ← e2]; simp)
      · exact ⟨a, by simp, e⟩
  refine hc r c ⟨ne, hr, h1, fun t ht _ => stuck_far hc (h2 t ht)⟩
end
end Pk

namespace N
open PySem L2 PyProof.Rows

theorem so_eqP {l m : List Nat} (nd : l.Nodup) (pw : m.Pairwise (· < ·)) (h : ∀ x, x ∈ l ↔ x ∈ m) : so l = m := by
  have p : (so l).Perm m := (so_perm l).trans ((List.perm_ext_iff_of_nodup nd (pw.imp fun h => Nat.ne_of_lt h)).mpr h)
  exact p.eq_of_pairwise (fun a b _ _ h1 h2 => Nat.le_antisymm h1 h2) (so_sorted l) (pw.imp fun h => Nat.le_of_lt h)
theorem flat_okP {rows : List (List PyData)} (hl : rows.flatten.length ≤ 100000) (s : Sto) : m__law_flat s [.d (.list (rows.map .list))] = some (.d (.list rows.flatten), s) := by
  apply R.eq
  unfold m__law_flat b__law_flat
  rw [R_fn]
  refine ⟨rfl, ?_⟩
  simp only [List.map_cons, List.map_nil, List.cons_append, List.nil_append, List.length_cons, List.length_nil, Nat.reduceSub, Nat.reduceAdd, List.replicate_succ, List.replicate_zero]
  rw [Rs_seq, Rs_set]
  simp only [Rs_nil, R_call, R_cons, R_nil, R_Var, R_C, R_bin, R_cmp, R_tcmp, R_tOr, R_tAnd, R_tNot, R_tVal, R_tTrue, R_ite, R_eAnd, R_eOr, R_eNot, R_neg, R_tup, R_isi, R_some, Rc_some, N.v_eq, N.v_ne, N.v_lt, N.v_le, N.v_gt, N.v_ge, N.v_add, N.v_sub, N.v_iadd, N.v_xor, N.v_int, N.tru_b, N.pd_d, N.data_nil, N.data_cons, N.len_t, N.v_tupT, N.g_name, N.isNone_n, N.isNone_t, N.isNone_i, N.v_isN, N.v_isNn, N.v_eqB, N.v_neB, List.set_cons_succ, List.set_cons_zero, List.getElem?_cons_succ, List.getElem?_cons_zero, Bool.not_true, Bool.not_false, Bool.false_eq_true, Bool.true_eq_false, eq_self, true_implies, false_implies, true_and, and_true, decide_true, decide_false, Int.zero_add, N.R_sl, N.R_it, R_oNone, R_oSome, wipeN, N.R_lst, N.R_mkF, N.R_mkT, N.R_meth, N.v_addT, Ri_rng1, Ri_rng2, Ri_seq]
  refine ⟨by simp [lim], ?_⟩
  rw [N.thn_nx, Rs_seq]
  refine Rs_for rows (fun r => .d (.list r)) (fun k e s' => s' = s ++ [.lst ((rows.take k).flatten.map .d)] ∧ e = [some (.d (.list (rows.map .list))), some (.r s.length), none]) ?_ (fun k r e s' hk hq => ?_) (fun e s' hq => ?_)
  · rw [Ri_seq]
    simp only [Rs_nil, R_call, R_cons, R_nil, R_Var, R_C, R_bin, R_cmp, R_tcmp, R_tOr, R_tAnd, R_tNot, R_tVal, R_tTrue, R_ite, R_eAnd, R_eOr, R_eNot, R_neg, R_tup, R_isi, R_some, Rc_some, N.v_eq, N.v_ne, N.v_lt, N.v_le, N.v_gt, N.v_ge, N.v_add, N.v_sub, N.v_iadd, N.v_xor, N.v_int, N.tru_b, N.pd_d, N.data_nil, N.data_cons, N.len_t, N.v_tupT, N.g_name, N.isNone_n, N.isNone_t, N.isNone_i, N.v_isN, N.v_isNn, N.v_eqB, N.v_neB, List.set_cons_succ, List.set_cons_zero, List.getElem?_cons_succ, List.getElem?_cons_zero, Bool.not_true, Bool.not_false, Bool.false_eq_true, Bool.true_eq_false, eq_self, true_implies, false_implies, true_and, and_true, decide_true, decide_false, Int.zero_add, N.R_sl, N.R_it, R_oNone, R_oSome, wipeN, N.R_lst, N.R_mkF, N.R_mkT, N.R_meth, N.v_addT, Ri_rng1, Ri_rng2, Ri_seq]
    exact ⟨by rw [List.map_map]; rfl, by simp⟩
  · obtain ⟨rfl, rfl⟩ := hq
    have g0 : (s ++ [Cell.lst ((rows.take k).flatten.map D.d)])[s.length]? = some (.lst ((rows.take k).flatten.map D.d)) := by simp
    have hsum : (rows.take k).flatten.length + r.length ≤ rows.flatten.length := by
      have h1 : rows.flatten = (rows.take k).flatten ++ (rows.drop k).flatten := by rw [← List.flatten_append, List.take_append_drop]
      obtain ⟨hlt, hr⟩ := List.getElem?_eq_some_iff.mp hk
      rw [h1, List.length_append, List.drop_eq_getElem_cons hlt, List.flatten_cons, List.length_append, hr]
      omega
    rw [g_name, Rc_some, Rs_seq, Rs_expr]
    simp only [Rs_nil, R_call, R_cons, R_nil, R_Var, R_C, R_bin, R_cmp, R_tcmp, R_tOr, R_tAnd, R_tNot, R_tVal, R_tTrue, R_ite, R_eAnd, R_eOr, R_eNot, R_neg, R_tup, R_isi, R_some, Rc_some, N.v_eq, N.v_ne, N.v_lt, N.v_le, N.v_gt, N.v_ge, N.v_add, N.v_sub, N.v_iadd, N.v_xor, N.v_int, N.tru_b, N.pd_d, N.data_nil, N.data_cons, N.len_t, N.v_tupT, N.g_name, N.isNone_n, N.isNone_t, N.isNone_i, N.v_isN, N.v_isNn, N.v_eqB, N.v_neB, List.set_cons_succ, List.set_cons_zero, List.getElem?_cons_succ, List.getElem?_cons_zero, Bool.not_true, Bool.not_false, Bool.false_eq_true, Bool.true_eq_false, eq_self, true_implies, false_implies, true_and, and_true, decide_true, decide_false, Int.zero_add, N.R_sl, N.R_it, R_oNone, R_oSome, wipeN, N.R_lst, N.R_mkF, N.R_mkT, N.R_meth, N.v_addT, Ri_rng1, Ri_rng2, Ri_seq, g0, v_extL]
    refine ⟨by rw [List.length_map]; simp only [lim]; omega, ?_⟩
    rw [N.set_last, N.thn_nx, Rs_nil, aft_nx, trimE_len (by simp)]
    refine ⟨?_, by simp [wipeN]⟩
    rw [List.take_add_one, hk, List.flatten_append, List.map_append]
    simp
  · obtain ⟨rfl, rfl⟩ := hq
    rw [List.take_length, N.thn_nx, Rs_seq, Rs_ret]
    simp only [Rs_nil, R_call, R_cons, R_nil, R_Var, R_C, R_bin, R_cmp, R_tcmp, R_tOr, R_tAnd, R_tNot, R_tVal, R_tTrue, R_ite, R_eAnd, R_eOr, R_eNot, R_neg, R_tup, R_isi, R_some, Rc_some, N.v_eq, N.v_ne, N.v_lt, N.v_le, N.v_gt, N.v_ge, N.v_add, N.v_sub, N.v_iadd, N.v_xor, N.v_int, N.tru_b, N.pd_d, N.data_nil, N.data_cons, N.len_t, N.v_tupT, N.g_name, N.isNone_n, N.isNone_t, N.isNone_i, N.v_isN, N.v_isNn, N.v_eqB, N.v_neB, List.set_cons_succ, List.set_cons_zero, List.getElem?_cons_succ, List.getElem?_cons_zero, Bool.not_true, Bool.not_false, Bool.false_eq_true, Bool.true_eq_false, eq_self, true_implies, false_implies, true_and, and_true, decide_true, decide_false, Int.zero_add, N.R_sl, N.R_it, R_oNone, R_oSome, wipeN, N.R_lst, N.R_mkF, N.R_mkT, N.R_meth, N.v_addT, Ri_rng1, Ri_rng2, Ri_seq]
    rw [N.thn_rt]
    unfold N.ret
    simp only [Nat.lt_irrefl, if_neg Bool.false_ne_true, if_false, List.getElem?_append_right (Nat.le_refl s.length), Nat.sub_self, List.getElem?_cons_zero, data_map, R_some]
    refine ⟨trivial, ?_⟩
    rw [N.set_last]
    simp [trim, N.safe_app]
/-- a park: its ways -/
structure Pkr (n : Nat) (es : List (Nat × Nat)) : Prop where
  nd : es.Nodup
  lt : ∀ e ∈ es, e.1 < e.2
  le : ∀ e ∈ es, e.2 < n
def adjP (es : List (Nat × Nat)) (u v : Nat) : Bool := decide (u = v) || (decide ((u, v) ∈ es) || decide ((v, u) ∈ es))
def nbP (n : Nat) (es : List (Nat × Nat)) (v : Nat) : List Nat := (List.range n).filter (adjP es v)
def rwP (n : Nat) (es : List (Nat × Nat)) : List (List Nat) := (List.range n).map (nbP n es)
abbrev prP (e : Nat × Nat) : PyData := .tuple [.int (e.1 : Nat), .int (e.2 : Nat)]
abbrev parD (n : Nat) (es : List (Nat × Nat)) : PyData := .tuple [.int (n : Nat), .tuple (es.map prP)]
theorem adj_refl (es : List (Nat × Nat)) (x : Nat) : adjP es x x = true := by simp [adjP]
theorem adj_symm (es : List (Nat × Nat)) (x y : Nat) : adjP es x y = adjP es y x := by
  unfold adjP
  rw [Bool.or_comm (decide ((x, y) ∈ es)), show decide (x = y) = decide (y = x) from decide_eq_decide.mpr eq_comm]
theorem mem_nb {n : Nat} {es : List (Nat × Nat)} {v x : Nat} : x ∈ nbP n es v ↔ x < n ∧ adjP es v x = true := by
  unfold nbP
  rw [List.mem_filter, List.mem_range]
theorem nb_len (n : Nat) (es : List (Nat × Nat)) (v : Nat) : (nbP n es v).length ≤ n := by
  have := List.length_filter_le (adjP es v) (List.range n)
  rwa [List.length_range] at this
theorem nb_pw (n : Nat) (es : List (Nat × Nat)) (v : Nat) : (nbP n es v).Pairwise (· < ·) := List.Pairwise.filter _ List.pairwise_lt_range
theorem rw_len (n : Nat) (es : List (Nat × Nat)) : (rwP n es).length = n := by simp [rwP]
theorem rw_at {n v : Nat} {es : List (Nat × Nat)} (h : v < n) : (rwP n es)[v]? = some (nbP n es v) := by
  unfold rwP
  rw [List.getElem?_map, List.getElem?_range h]
  rfl
theorem in_pairN {neg : Bool} {a b i : Nat} {s : Sto} : cIn neg s (.d (.int (i : Nat))) (.d (.tuple [.int (a : Nat), .int (b : Nat)])) = some (if neg then !(decide (i = a) || decide (i = b)) else (decide (i = a) || decide (i = b))) := by
  have := v_inNt (neg := neg) (ns := [a, b]) (k := i) (s := s)
  rw [show nt [a, b] = [.int (a : Nat), .int (b : Nat)] from rfl] at this
  rw [this, show decide (i ∈ [a, b]) = (decide (i = a) || decide (i = b)) from by rw [Bool.eq_iff_iff]; simp]
theorem rngN {m : Int} {n : Nat} (h : m = (n : Nat)) : rngD 0 m.toNat = (List.range n).map fun k => .d (.int (k : Nat)) := by
  subst h
  unfold rngD
  refine List.map_congr_left fun k _ => ?_
  rw [Int.zero_add]
def stq (i : Nat) (q : Nat × Nat) : Bool := decide (i = q.1) || decide (i = q.2)
theorem near_srt {n : Nat} {es : List (Nat × Nat)} (G : Pkr n es) {i : Nat} (hi : i < n) : so ((es.filter (stq i)).map (fun q => q.1 + q.2 - i) ++ [i]) = nbP n es i := by
  have mm : ∀ x, x ∈ (es.filter (stq i)).map (fun q => q.1 + q.2 - i) ↔ (i, x) ∈ es ∨ (x, i) ∈ es := by
    intro x
    rw [List.mem_map]
    constructor
    · rintro ⟨⟨a, b⟩, h, rfl⟩
      rw [List.mem_filter] at h
      unfold stq at h
      have h2 := h.2
      simp only [Bool.or_eq_true, decide_eq_true_eq] at h2
      rcases h2 with rfl | rfl
      · exact .inl (by simp only [Nat.add_sub_cancel_left]; exact h.1)
      · exact .inr (by simp only [Nat.add_sub_cancel]; exact h.1)
    · rintro (h | h)
      · exact ⟨_, List.mem_filter.mpr ⟨h, by simp [stq]⟩, by simp⟩
      · exact ⟨_, List.mem_filter.mpr ⟨h, by simp [stq]⟩, by simp⟩
  refine so_eqP ?_ (nb_pw n es i) fun x => ?_
  · rw [List.nodup_append]
    refine ⟨?_, by simp, fun a ha b hb e => ?_⟩
    · rw [List.nodup_iff_pairwise_ne, List.pairwise_map]
      refine (List.Pairwise.filter _ (List.nodup_iff_pairwise_ne.mp G.nd)).imp_of_mem fun {p q} hp hq ne e => ne ?_
      rw [List.mem_filter] at hp hq
      obtain ⟨hp, hp2⟩ := hp
      obtain ⟨hq, hq2⟩ := hq
      have l1 := G.lt _ hp
      have l2 := G.lt _ hq
      obtain ⟨a, b⟩ := p
      obtain ⟨c, d⟩ := q
      simp only [stq, Bool.or_eq_true, decide_eq_true_eq] at *
      rcases hp2 with rfl | rfl <;> rcases hq2 with rfl | rfl <;> simp only [Prod.mk.injEq] <;> first | omega | exact ⟨trivial, by omega⟩ | exact ⟨by omega, trivial⟩
    · rw [List.mem_singleton] at hb
      subst hb
      subst e
      rcases (mm a).mp ha with h | h
      · have := G.lt _ h; simp only [] at this; omega
      · have := G.lt _ h; simp only [] at this; omega
  · rw [List.mem_append, mm, List.mem_singleton, mem_nb]
    unfold adjP
    simp only [Bool.or_eq_true, decide_eq_true_eq]
    constructor
    · rintro ((h | h) | rfl)
      · exact ⟨G.le _ h, .inr (.inl h)⟩
      · exact ⟨Nat.lt_trans (G.lt _ h) (G.le _ h), .inr (.inr h)⟩
      · exact ⟨hi, .inl rfl⟩
    · rintro ⟨_, rfl | h | h⟩
      · exact .inr rfl
      · exact .inl (.inl h)
      · exact .inl (.inr h)
theorem near_ok {n : Nat} {es : List (Nat × Nat)} (G : Pkr n es) (hn : n ≤ 100) (hl : es.length ≤ 10000) (s : Sto) : m_near s [.d (parD n es)] = some (.d (.tuple ((rwP n es).map tup)), s) := by
  apply R.eq
  unfold m_near b_near
  simp only [R_fn]
  refine ⟨rfl, ?_⟩
  simp only [N.thn_nx, N.thn_rt, Rs_seq, Rs_set, Rs_ret, Rs_expr, Rs_nil, Rs_if, Rs_asg, Rs_aug, R_call, R_cons, R_nil, R_Var, R_C, R_bin, R_cmp, R_tcmp, R_tOr, R_tAnd, R_tNot, R_tVal, R_tTrue, R_ite, R_eAnd, R_eOr, R_eNot, R_neg, R_tup, R_isi, R_some, Rc_some, N.v_eq, N.v_ne, N.v_lt, N.v_le, N.v_gt, N.v_ge, N.v_add, N.v_sub, N.v_iadd, N.v_xor, N.v_int, N.tru_b, N.pd_d, N.data_nil, N.data_cons, N.len_t, N.v_tupT, N.g_name, N.isNone_n, N.isNone_t, N.isNone_i, N.v_isN, N.v_isNn, N.v_eqB, N.v_neB, List.set_cons_succ, List.set_cons_zero, List.getElem?_cons_succ, List.getElem?_cons_zero, Bool.not_true, Bool.not_false, Bool.false_eq_true, Bool.true_eq_false, eq_self, true_implies, false_implies, true_and, and_true, decide_true, decide_false, Int.zero_add, N.R_sl, N.R_it, R_oNone, R_oSome, wipeN, N.R_lst, N.R_mkF, N.R_mkT, N.R_meth, N.v_addT, Ri_rng1, Ri_rng2, Ri_seq, N.g_tup, N.gs_cons, N.gs_nil, N.gs_len, List.map_cons, List.map_nil, List.cons_append, List.nil_append, List.length_cons, List.length_nil, List.replicate, if_true, Nat.reduceSub, Nat.reduceAdd]
  refine ⟨by simp [lim], ?_⟩
  refine Rs_for (List.range n) (fun k => .d (.int (k : Nat))) (fun k e s' => s' = s ++ [.lst (((rwP n es).take k).map fun r => .d (tup r))] ∧ e = [some (.d (parD n es)), some (.d (.int (n : Nat))), some (.d (.tuple (es.map prP))), some (.r s.length), none, none, none, none]) ?_ (fun k x e s' hk hq => ?_) (fun e s' hq => ?_)
  · rw [Ri_rng1]
    simp only [Rs_nil, R_call, R_cons, R_nil, R_Var, R_C, R_bin, R_cmp, R_tcmp, R_tOr, R_tAnd, R_tNot, R_tVal, R_tTrue, R_ite, R_eAnd, R_eOr, R_eNot, R_neg, R_tup, R_isi, R_some, Rc_some, N.v_eq, N.v_ne, N.v_lt, N.v_le, N.v_gt, N.v_ge, N.v_add, N.v_sub, N.v_iadd, N.v_xor, N.v_int, N.tru_b, N.pd_d, N.data_nil, N.data_cons, N.len_t, N.v_tupT, N.g_name, N.isNone_n, N.isNone_t, N.isNone_i, N.v_isN, N.v_isNn, N.v_eqB, N.v_neB, List.set_cons_succ, List.set_cons_zero, List.getElem?_cons_succ, List.getElem?_cons_zero, Bool.not_true, Bool.not_false, Bool.false_eq_true, Bool.true_eq_false, eq_self, true_implies, false_implies, true_and, and_true, decide_true, decide_false, Int.zero_add, N.R_sl, N.R_it, R_oNone, R_oSome, wipeN, N.R_lst, N.R_mkF, N.R_mkT, N.R_meth, N.v_addT, Ri_rng1, Ri_rng2, Ri_seq]
    exact ⟨⟨by omega, by omega⟩, rngN rfl, rfl⟩
  · obtain ⟨rfl, rfl⟩ := hq
    obtain ⟨hk1, hk2⟩ := List.getElem?_eq_some_iff.mp hk
    rw [List.getElem_range] at hk2
    subst hk2
    rw [List.length_range] at hk1
    rw [g_name, Rc_some]
    simp only [N.thn_nx, N.thn_rt, Rs_seq, Rs_set, Rs_ret, Rs_expr, Rs_nil, Rs_if, Rs_asg, Rs_aug, R_call, R_cons, R_nil, R_Var, R_C, R_bin, R_cmp, R_tcmp, R_tOr, R_tAnd, R_tNot, R_tVal, R_tTrue, R_ite, R_eAnd, R_eOr, R_eNot, R_neg, R_tup, R_isi, R_some, Rc_some, N.v_eq, N.v_ne, N.v_lt, N.v_le, N.v_gt, N.v_ge, N.v_add, N.v_sub, N.v_iadd, N.v_xor, N.v_int, N.tru_b, N.pd_d, N.data_nil, N.data_cons, N.len_t, N.v_tupT, N.g_name, N.isNone_n, N.isNone_t, N.isNone_i, N.v_isN, N.v_isNn, N.v_eqB, N.v_neB, List.set_cons_succ, List.set_cons_zero, List.getElem?_cons_succ, List.getElem?_cons_zero, Bool.not_true, Bool.not_false, Bool.false_eq_true, Bool.true_eq_false, eq_self, true_implies, false_implies, true_and, and_true, decide_true, decide_false, Int.zero_add, N.R_sl, N.R_it, R_oNone, R_oSome, wipeN, N.R_lst, N.R_mkF, N.R_mkT, N.R_meth, N.v_addT, Ri_rng1, Ri_rng2, Ri_seq]
    refine R_lcG es (fun q => .d (prP q)) (fun q => .int ((q.1 : Nat) + (q.2 : Nat) - (k : Nat))) (stq k) ?_ (fun q hq acc => ?_) (by simp only [lim]; omega) ?_
    · rw [Ri_seq]
      simp only [Rs_nil, R_call, R_cons, R_nil, R_Var, R_C, R_bin, R_cmp, R_tcmp, R_tOr, R_tAnd, R_tNot, R_tVal, R_tTrue, R_ite, R_eAnd, R_eOr, R_eNot, R_neg, R_tup, R_isi, R_some, Rc_some, N.v_eq, N.v_ne, N.v_lt, N.v_le, N.v_gt, N.v_ge, N.v_add, N.v_sub, N.v_iadd, N.v_xor, N.v_int, N.tru_b, N.pd_d, N.data_nil, N.data_cons, N.len_t, N.v_tupT, N.g_name, N.isNone_n, N.isNone_t, N.isNone_i, N.v_isN, N.v_isNn, N.v_eqB, N.v_neB, List.set_cons_succ, List.set_cons_zero, List.getElem?_cons_succ, List.getElem?_cons_zero, Bool.not_true, Bool.not_false, Bool.false_eq_true, Bool.true_eq_false, eq_self, true_implies, false_implies, true_and, and_true, decide_true, decide_false, Int.zero_add, N.R_sl, N.R_it, R_oNone, R_oSome, wipeN, N.R_lst, N.R_mkF, N.R_mkT, N.R_meth, N.v_addT, Ri_rng1, Ri_rng2, Ri_seq]
      exact ⟨by rw [List.map_map]; rfl, CkA.none _⟩
    · simp only [Rs_nil, R_call, R_cons, R_nil, R_Var, R_C, R_bin, R_cmp, R_tcmp, R_tOr, R_tAnd, R_tNot, R_tVal, R_tTrue, R_ite, R_eAnd, R_eOr, R_eNot, R_neg, R_tup, R_isi, R_some, Rc_some, N.v_eq, N.v_ne, N.v_lt, N.v_le, N.v_gt, N.v_ge, N.v_add, N.v_sub, N.v_iadd, N.v_xor, N.v_int, N.tru_b, N.pd_d, N.data_nil, N.data_cons, N.len_t, N.v_tupT, N.g_name, N.isNone_n, N.isNone_t, N.isNone_i, N.v_isN, N.v_isNn, N.v_eqB, N.v_neB, List.set_cons_succ, List.set_cons_zero, List.getElem?_cons_succ, List.getElem?_cons_zero, Bool.not_true, Bool.not_false, Bool.false_eq_true, Bool.true_eq_false, eq_self, true_implies, false_implies, true_and, and_true, decide_true, decide_false, Int.zero_add, N.R_sl, N.R_it, R_oNone, R_oSome, wipeN, N.R_lst, N.R_mkF, N.R_mkT, N.R_meth, N.v_addT, Ri_rng1, Ri_rng2, Ri_seq, N.g_tup, N.gs_cons, N.gs_nil, N.gs_len, List.length_cons, List.length_nil, if_true, Nat.reduceAdd, in_pairN]
      refine ⟨by simp [lim], ?_⟩
      simp [stq]
    · have e1 : (es.filter (stq k)).map (fun q => PyData.int ((q.1 : Nat) + (q.2 : Nat) - (k : Nat))) = nt ((es.filter (stq k)).map (fun q => q.1 + q.2 - k)) := by
        unfold nt
        rw [List.map_map]
        refine List.map_congr_left fun q hq => ?_
        have := (List.mem_filter.mp hq).2
        simp only [stq, Bool.or_eq_true, decide_eq_true_eq] at this
        simp only [Function.comp]
        congr 1
        omega
      have hf := List.length_filter_le (stq k) es
      have g0 : (s ++ [Cell.lst (((rwP n es).take k).map fun r => .d (tup r))])[s.length]? = some (.lst (((rwP n es).take k).map fun r => .d (tup r))) := by simp
      rw [e1]
      simp only [Rs_nil, R_call, R_cons, R_nil, R_Var, R_C, R_bin, R_cmp, R_tcmp, R_tOr, R_tAnd, R_tNot, R_tVal, R_tTrue, R_ite, R_eAnd, R_eOr, R_eNot, R_neg, R_tup, R_isi, R_some, Rc_some, N.v_eq, N.v_ne, N.v_lt, N.v_le, N.v_gt, N.v_ge, N.v_add, N.v_sub, N.v_iadd, N.v_xor, N.v_int, N.tru_b, N.pd_d, N.data_nil, N.data_cons, N.len_t, N.v_tupT, N.g_name, N.isNone_n, N.isNone_t, N.isNone_i, N.v_isN, N.v_isNn, N.v_eqB, N.v_neB, List.set_cons_succ, List.set_cons_zero, List.getElem?_cons_succ, List.getElem?_cons_zero, Bool.not_true, Bool.not_false, Bool.false_eq_true, Bool.true_eq_false, eq_self, true_implies, false_implies, true_and, and_true, decide_true, decide_false, Int.zero_add, N.R_sl, N.R_it, R_oNone, R_oSome, wipeN, N.R_lst, N.R_mkF, N.R_mkT, N.R_meth, N.v_addT, Ri_rng1, Ri_rng2, Ri_seq, g0, v_addLL]
      refine ⟨by first | (simp [lim]; done) | (simp [lim]; omega), by first | (simp [nt, lim]; done) | (simp [nt, lim]; omega), ?_⟩
      rw [show nt ((es.filter (stq k)).map (fun q => q.1 + q.2 - k)) ++ [PyData.int (k : Nat)] = nt ((es.filter (stq k)).map (fun q => q.1 + q.2 - k) ++ [k]) from by simp [nt]]
      refine R_sortI ?_
      rw [near_srt G hk1]
      simp only [v_tupL, R_some, g0, N.v_app]
      refine ⟨by simp [lim, rw_len]; omega, ?_⟩
      rw [N.set_last, aft_nx, trimE_len (by simp)]
      refine ⟨?_, by simp [wipeN]⟩
      rw [List.take_add_one, rw_at hk1]
      simp
      rfl
  · obtain ⟨rfl, rfl⟩ := hq
    rw [List.length_range, List.take_of_length_le (by rw [rw_len]; exact Nat.le_refl _)]
    have g0 : (s ++ [Cell.lst ((rwP n es).map fun r => D.d (tup r))])[s.length]? = some (.lst (((rwP n es).map tup).map .d)) := by
      rw [List.getElem?_append_right (Nat.le_refl _), Nat.sub_self, List.map_map]
      rfl
    simp only [N.thn_nx, N.thn_rt, Rs_seq, Rs_set, Rs_ret, Rs_expr, Rs_nil, Rs_if, Rs_asg, Rs_aug, R_call, R_cons, R_nil, R_Var, R_C, R_bin, R_cmp, R_tcmp, R_tOr, R_tAnd, R_tNot, R_tVal, R_tTrue, R_ite, R_eAnd, R_eOr, R_eNot, R_neg, R_tup, R_isi, R_some, Rc_some, N.v_eq, N.v_ne, N.v_lt, N.v_le, N.v_gt, N.v_ge, N.v_add, N.v_sub, N.v_iadd, N.v_xor, N.v_int, N.tru_b, N.pd_d, N.data_nil, N.data_cons, N.len_t, N.v_tupT, N.g_name, N.isNone_n, N.isNone_t, N.isNone_i, N.v_isN, N.v_isNn, N.v_eqB, N.v_neB, List.set_cons_succ, List.set_cons_zero, List.getElem?_cons_succ, List.getElem?_cons_zero, Bool.not_true, Bool.not_false, Bool.false_eq_true, Bool.true_eq_false, eq_self, true_implies, false_implies, true_and, and_true, decide_true, decide_false, Int.zero_add, N.R_sl, N.R_it, R_oNone, R_oSome, wipeN, N.R_lst, N.R_mkF, N.R_mkT, N.R_meth, N.v_addT, Ri_rng1, Ri_rng2, Ri_seq, v_tupR g0, R_retd, trim_app]
end N

namespace N
open PySem L2 PyProof.Rows

def crnB (n : Nat) (es : List (Nat × Nat)) (L : List Nat) (u v : Nat) : Bool := decide (u ≠ v) && (decide (v ∈ nbP n es u) && ((nbP n es u).filter fun t => decide (t ∈ L)).all fun t => decide (t ∈ nbP n es v))
def csP (n : Nat) (es : List (Nat × Nat)) (L : List Nat) : List (Nat × Nat) := L.flatMap fun u => (L.filter (crnB n es L u)).map fun v => (u, v)
def taP (n : Nat) (es : List (Nat × Nat)) : Nat → List Nat → List (Nat × Nat) → Bool × List (Nat × Nat)
  | 0, _, F => (true, F)
  | k + 1, L, F => if L.length ≤ 1 then (true, F) else match csP n es L with
    | [] => (false, F)
    | p :: _ => taP n es k (L.erase p.1) (F ++ [p])
theorem taP_succ {n : Nat} {es : List (Nat × Nat)} {k : Nat} {L : List Nat} {F : List (Nat × Nat)} : taP n es (k + 1) L F = if L.length ≤ 1 then (true, F) else match csP n es L with
    | [] => (false, F)
    | p :: _ => taP n es k (L.erase p.1) (F ++ [p]) := by rw [taP]
/-- two of n places -/
def dP (n : Nat) : PyData → Option (Nat × Nat)
  | .tuple [.int i, .int j] => if 0 ≤ i ∧ i < n ∧ 0 ≤ j ∧ j < n then some (i.toNat, j.toNat) else none
  | _ => none
def leftX (n : Nat) (es : List (Nat × Nat)) : List PyData → List Nat → Option (List Nat)
  | [], L => some L
  | x :: xs, L => match dP n x with
    | some p => if p.1 ∈ L ∧ p.2 ∈ L ∧ crnB n es L p.1 p.2 = true then leftX n es xs (L.erase p.1) else none
    | none => none
section
variable {n : Nat} {es : List (Nat × Nat)} {L : List Nat}
abbrev AP (es : List (Nat × Nat)) (u v : Nat) : Prop := adjP es u v = true
theorem AP.rf (es : List (Nat × Nat)) (x : Nat) : AP es x x := adj_refl es x
theorem AP.sy (es : List (Nat × Nat)) (x y : Nat) (h : AP es x y) : AP es y x := by rw [AP, adj_symm]; exact h
theorem crn_iff (hL : ∀ x ∈ L, x < n) {u v : Nat} (hu : u ∈ L) (hv : v ∈ L) : crnB n es L u v = true ↔ Pk.Corner (AP es) L u v := by
  unfold crnB
  simp only [Bool.and_eq_true, decide_eq_true_eq, List.all_eq_true, List.mem_filter, mem_nb]
  constructor
  · rintro ⟨h1, h2, h3⟩
    exact ⟨h1, hu, hv, fun t ht ha => (h3 t ⟨⟨hL t ht, ha⟩, ht⟩).2⟩
  · rintro ⟨h1, _, _, h3⟩
    exact ⟨h1, ⟨hL v hv, AP.sy es _ _ (h3 u hu (AP.rf es u))⟩, fun t ht => ⟨hL t ht.2, h3 t ht.2 ht.1.2⟩⟩
/-- the law's corner -/
def crnL (n : Nat) (es : List (Nat × Nat)) (L : List Nat) (u v : Nat) : Bool := decide (u ≠ v) && ((nbP n es u).filter fun t => decide (t ∈ L)).all fun t => decide (t ∈ nbP n es v)
theorem crnL_eq (hL : ∀ x ∈ L, x < n) {u v : Nat} (hu : u ∈ L) (hv : v < n) : crnL n es L u v = crnB n es L u v := by
  unfold crnB crnL
  by_cases h : decide (v ∈ nbP n es u) = true
  · rw [h, Bool.true_and]
  · have h2 : decide (v ∈ nbP n es u) = false := by simpa using h
    rw [h2, Bool.false_and, Bool.and_false]
    rw [Bool.and_eq_false_iff]
    right
    rw [Bool.eq_false_iff]
    intro hh
    rw [List.all_eq_true] at hh
    have := hh u (List.mem_filter.mpr ⟨mem_nb.mpr ⟨hL u hu, adj_refl es u⟩, by simpa using hu⟩)
    simp only [decide_eq_true_eq, mem_nb] at this
    exact h (by simpa [mem_nb] using ⟨hv, AP.sy es _ _ this.2⟩)
theorem mem_cs {p : Nat × Nat} : p ∈ csP n es L ↔ p.1 ∈ L ∧ p.2 ∈ L ∧ crnB n es L p.1 p.2 = true := by
  unfold csP
  rw [List.mem_flatMap]
  constructor
  · rintro ⟨u, hu, hp⟩
    obtain ⟨v, hv, rfl⟩ := List.mem_map.mp hp
    rw [List.mem_filter] at hv
    exact ⟨hu, hv.1, hv.2⟩
  · rintro ⟨h1, h2, h3⟩
    exact ⟨p.1, h1, List.mem_map.mpr ⟨p.2, List.mem_filter.mpr ⟨h2, h3⟩, rfl⟩⟩
theorem cs_nil (hL : ∀ x ∈ L, x < n) (h : csP n es L = []) : ∀ u v, ¬ Pk.Corner (AP es) L u v := fun u v c => by
  have : (u, v) ∈ csP n es L := mem_cs.mpr ⟨c.hu, c.hv, (crn_iff hL c.hu c.hv).mpr c⟩
  rw [h] at this
  cases this
/-- what is left, and whether the cop wins there -/
structure LOk (n : Nat) (es : List (Nat × Nat)) (L : List Nat) : Prop where
  nd : L.Nodup
  lt : ∀ x ∈ L, x < n
  ne : L ≠ []
  wins : Pk.Wins (AP es) L ↔ Pk.Wins (AP es) (List.range n)
theorem LOk.start (h : 0 < n) : LOk n es (List.range n) := ⟨List.nodup_range, fun x hx => List.mem_range.mp hx, fun e => by simp at e; omega, Iff.rfl⟩
theorem LOk.step (l : LOk n es L) {u v : Nat} (hu : u ∈ L) (hv : v ∈ L) (hc : crnB n es L u v = true) : LOk n es (L.erase u) := by
  have c := (crn_iff l.lt hu hv).mp hc
  refine ⟨l.nd.erase u, fun x hx => l.lt x (List.mem_of_mem_erase hx), fun e => ?_, (Pk.wins_corner (AP.rf es) (AP.sy es) l.nd c).trans l.wins⟩
  have : v ∈ L.erase u := (l.nd.mem_erase_iff).mpr ⟨fun e => c.ne e.symm, hv⟩
  rw [e] at this
  cases this
theorem leftX_ok : ∀ {xs : List PyData} {L M : List Nat}, LOk n es L → leftX n es xs L = some M → LOk n es M
  | [], L, M, h, e => by cases e; exact h
  | x :: xs, L, M, h, e => by
    unfold leftX at e
    split at e
    · rename_i p _
      split at e
      · rename_i hc
        exact leftX_ok (h.step hc.1 hc.2.1 hc.2.2) e
      · cases e
    · cases e
theorem leftX_app : ∀ (xs ys : List PyData) (L : List Nat), leftX n es (xs ++ ys) L = (leftX n es xs L).bind (leftX n es ys)
  | [], ys, L => rfl
  | x :: xs, ys, L => by
    rw [List.cons_append]
    unfold leftX
    split
    · rename_i p _
      split
      · exact leftX_app xs ys _
      · rfl
    · rfl
theorem dP_pr {p : Nat × Nat} (h1 : p.1 < n) (h2 : p.2 < n) : dP n (prP p) = some p := by
  unfold dP prP
  simp only []
  rw [if_pos ⟨by omega, by omega, by omega, by omega⟩]
  simp
theorem leftX_one {xs : List PyData} {p : Nat × Nat} (l : LOk n es L) (h : leftX n es xs (List.range n) = some L) (hp : p ∈ csP n es L) : leftX n es (xs ++ [prP p]) (List.range n) = some (L.erase p.1) := by
  obtain ⟨h1, h2, h3⟩ := mem_cs.mp hp
  rw [leftX_app, h, Option.bind_some]
  unfold leftX
  rw [dP_pr (l.lt _ h1) (l.lt _ h2)]
  simp only [if_pos (show p.1 ∈ L ∧ p.2 ∈ L ∧ crnB n es L p.1 p.2 = true from ⟨h1, h2, h3⟩)]
  rfl
theorem LOk.one (l : LOk n es L) (h : L.length ≤ 1) : Pk.Wins (AP es) (List.range n) := l.wins.mp (Pk.wins_one (AP.rf es) (by
  have := List.length_pos_iff.mpr l.ne
  omega))
theorem LOk.stuck (l : LOk n es L) (h : csP n es L = []) (h1 : 1 < L.length) : ¬ Pk.Wins (AP es) (List.range n) := fun w => Pk.stuck_lost (cs_nil l.lt h) l.nd h1 (l.wins.mpr w)
/-- the park taken apart: what is left behind the told pairs -/
theorem ta_ok : ∀ (k : Nat) (L : List Nat) (F : List (Nat × Nat)), L.length ≤ k → LOk n es L → leftX n es (F.map prP) (List.range n) = some L → ∃ M, leftX n es ((taP n es k L F).2.map prP) (List.range n) = some M ∧ LOk n es M ∧ ((taP n es k L F).1 = true → M.length = 1) ∧ ((taP n es k L F).1 = false → csP n es M = [] ∧ 1 < M.length)
  | 0, L, F, hk, l, h => absurd (List.length_pos_iff.mpr l.ne) (by omega)
  | k + 1, L, F, hk, l, h => by
    unfold taP
    split
    · rename_i h1
      have := List.length_pos_iff.mpr l.ne
      exact ⟨L, h, l, fun _ => by omega, fun e => (by cases e)⟩
    · rename_i h1
      split
      · rename_i hc
        exact ⟨L, h, l, fun e => (by cases e), fun _ => ⟨hc, by omega⟩⟩
      · rename_i p r hc
        have hp : p ∈ csP n es L := by rw [hc]; exact List.mem_cons_self
        have hm := mem_cs.mp hp
        have := leftX_one l h hp
        refine ta_ok k (L.erase p.1) (F ++ [p]) ?_ (l.step hm.1 hm.2.1 hm.2.2) (by rw [List.map_append]; exact this)
        rw [List.length_erase_of_mem hm.1]
        omega
/-- what both sides tell of any value -/
def lbD (n : Nat) (es : List (Nat × Nat)) : PyData → Option (List Nat)
  | .tuple xs => leftX n es xs (List.range n)
  | _ => none
def lbV (n : Nat) (es : List (Nat × Nat)) (x : PyData) : PyData := match lbD n es x with
  | some L => .list (nt L)
  | none => .none
theorem lbD_ok (h : 0 < n) {x : PyData} (e : lbD n es x = some L) : LOk n es L := by
  cases x with
  | tuple xs => exact leftX_ok (LOk.start h) e
  | _ => cases e
end
end N

namespace N
open PySem L2 PyProof.Rows

section
variable {n : Nat} {es : List (Nat × Nat)} {L : List Nat} {s : Sto}
theorem rowT_at {v : Nat} (h : v < n) : itF s (.d (.tuple ((rwP n es).map tup))) (.d (.int (v : Nat))) = some (.d (.tuple (nt (nbP n es v)))) := itF_t (atI_nat (by rw [List.getElem?_map, rw_at h]; rfl))
theorem in_LLn {neg : Bool} {d : D} (l : LL s d (nt L)) (x : Nat) : cIn neg s (.d (.int (x : Nat))) d = some (if neg then !decide (x ∈ L) else decide (x ∈ L)) := by
  have hd : PyData.depth (.int (x : Nat)) = 0 := rfl
  rw [in_LL l (pks_nt L) rfl (by rw [hd]; omega)]
  simp only [mem_nt]
theorem corner_ok {d : D} (l : LL s d (nt L)) {u v : Nat} (hu : u < n) (hv : v < n) (hn : n ≤ 100) : m_is_corner s [.d (.tuple ((rwP n es).map tup)), d, .d (.int (u : Nat)), .d (.int (v : Nat))] = some (.d (.bool (crnB n es L u v)), s) := by
  apply R.eq
  unfold m_is_corner b_is_corner
  simp only [R_fn]
  refine ⟨rfl, ?_⟩
  simp only [N.thn_nx, N.thn_rt, Rs_seq, Rs_set, Rs_ret, Rs_expr, Rs_nil, Rs_if, Rs_asg, Rs_aug, R_call, R_cons, R_nil, R_Var, R_C, R_bin, R_cmp, R_tcmp, R_tOr, R_tAnd, R_tNot, R_tVal, R_tTrue, R_ite, R_eAnd, R_eOr, R_eNot, R_neg, R_tup, R_isi, R_some, Rc_some, N.v_eq, N.v_ne, N.v_lt, N.v_le, N.v_gt, N.v_ge, N.v_add, N.v_sub, N.v_iadd, N.v_xor, N.v_int, N.tru_b, N.pd_d, N.data_nil, N.data_cons, N.len_t, N.v_tupT, N.g_name, N.isNone_n, N.isNone_t, N.isNone_i, N.v_isN, N.v_isNn, N.v_eqB, N.v_neB, List.set_cons_succ, List.set_cons_zero, List.getElem?_cons_succ, List.getElem?_cons_zero, Bool.not_true, Bool.not_false, Bool.false_eq_true, Bool.true_eq_false, eq_self, true_implies, false_implies, true_and, and_true, decide_true, decide_false, Int.zero_add, N.R_sl, N.R_it, R_oNone, R_oSome, wipeN, N.R_lst, N.R_mkF, N.R_mkT, N.R_meth, N.v_addT, Ri_rng1, Ri_rng2, Ri_seq, List.map_cons, List.map_nil, List.cons_append, List.nil_append, List.length_cons, List.length_nil, List.replicate, Nat.reduceSub, Nat.reduceAdd, rowT_at hu, rowT_at hv, v_inNt, if_neg Bool.false_ne_true]
  unfold crnB
  refine ⟨fun h1 => ⟨fun h2 => ?_, fun h2 => ?_⟩, fun h1 => ?_⟩
  · have h1 : ¬ u = v := by simp at h1; omega
    have h2 : v ∈ nbP n es u := by simpa using h2
    refine R_lcG (nbP n es u) (fun t => .d (.int (t : Nat))) (fun t => .bool (decide (t ∈ nbP n es v))) (fun t => decide (t ∈ L)) ?_ (fun t ht acc => ?_) (by have := nb_len n es u; simp only [lim]; omega) ?_
    · rw [Ri_seq]
      simp only [Rs_nil, R_call, R_cons, R_nil, R_Var, R_C, R_bin, R_cmp, R_tcmp, R_tOr, R_tAnd, R_tNot, R_tVal, R_tTrue, R_ite, R_eAnd, R_eOr, R_eNot, R_neg, R_tup, R_isi, R_some, Rc_some, N.v_eq, N.v_ne, N.v_lt, N.v_le, N.v_gt, N.v_ge, N.v_add, N.v_sub, N.v_iadd, N.v_xor, N.v_int, N.tru_b, N.pd_d, N.data_nil, N.data_cons, N.len_t, N.v_tupT, N.g_name, N.isNone_n, N.isNone_t, N.isNone_i, N.v_isN, N.v_isNn, N.v_eqB, N.v_neB, List.set_cons_succ, List.set_cons_zero, List.getElem?_cons_succ, List.getElem?_cons_zero, Bool.not_true, Bool.not_false, Bool.false_eq_true, Bool.true_eq_false, eq_self, true_implies, false_implies, true_and, and_true, decide_true, decide_false, Int.zero_add, N.R_sl, N.R_it, R_oNone, R_oSome, wipeN, N.R_lst, N.R_mkF, N.R_mkT, N.R_meth, N.v_addT, Ri_rng1, Ri_rng2, Ri_seq, rowT_at hu]
      exact ⟨by rw [nt, List.map_map]; rfl, CkA.none _⟩
    · simp only [Rs_nil, R_call, R_cons, R_nil, R_Var, R_C, R_bin, R_cmp, R_tcmp, R_tOr, R_tAnd, R_tNot, R_tVal, R_tTrue, R_ite, R_eAnd, R_eOr, R_eNot, R_neg, R_tup, R_isi, R_some, Rc_some, N.v_eq, N.v_ne, N.v_lt, N.v_le, N.v_gt, N.v_ge, N.v_add, N.v_sub, N.v_iadd, N.v_xor, N.v_int, N.tru_b, N.pd_d, N.data_nil, N.data_cons, N.len_t, N.v_tupT, N.g_name, N.isNone_n, N.isNone_t, N.isNone_i, N.v_isN, N.v_isNn, N.v_eqB, N.v_neB, List.set_cons_succ, List.set_cons_zero, List.getElem?_cons_succ, List.getElem?_cons_zero, Bool.not_true, Bool.not_false, Bool.false_eq_true, Bool.true_eq_false, eq_self, true_implies, false_implies, true_and, and_true, decide_true, decide_false, Int.zero_add, N.R_sl, N.R_it, R_oNone, R_oSome, wipeN, N.R_lst, N.R_mkF, N.R_mkT, N.R_meth, N.v_addT, Ri_rng1, Ri_rng2, Ri_seq, in_LLn (l.app [.lst acc]), rowT_at hv, v_inNt, if_neg Bool.false_ne_true]
      simp
    · rw [all_map, R_some]
      simp [R_retd, h1, h2]
  · have h1 : ¬ u = v := by simp at h1; omega
    have h2 : v ∉ nbP n es u := by simpa using h2
    simp [R_retd, h1, h2]
  · have h1 : u = v := by simp at h1; omega
    simp [R_retd, h1]
theorem Ri_LLn {m : ME} {e : Lo} {d : D} (hm : m e s = some (d, s)) (h : LL s d (nt L)) : Ri (iSeq m e s) fun items ck s1 => items = L.map (fun t => .d (.int (t : Nat))) ∧ CkA ck s ∧ s1 = s := by
  obtain ⟨a, b, c, h1, rfl, h2, rfl⟩ := Ri_LL hm h
  exact ⟨_, _, _, h1, by rw [nt, List.map_map]; rfl, h2, rfl⟩
theorem Ri_LLnx {m : ME} {e : Lo} {g : Sto} {d : D} (hm : m e (s ++ g) = some (d, s ++ g)) (h : LL s d (nt L)) : Ri (iSeq m e (s ++ g)) fun items ck s1 => items = L.map (fun t => .d (.int (t : Nat))) ∧ CkA ck s ∧ s1 = s ++ g := by
  obtain ⟨a, b, c, h1, rfl, h2, rfl⟩ := Ri_LLx hm h
  exact ⟨_, _, _, h1, by rw [nt, List.map_map]; rfl, h2, rfl⟩
theorem corners_ok {d : D} (G : Pkr n es) (l : LL s d (nt L)) (hL : ∀ x ∈ L, x < n) (hl : L.length ≤ n) (hn : n ≤ 100) (he : es.length ≤ 10000) : m_corners s [.d (parD n es), d] = some (.d (.tuple ((csP n es L).map prP)), s) := by
  apply R.eq
  unfold m_corners b_corners
  simp only [R_fn]
  refine ⟨rfl, ?_⟩
  simp only [N.thn_nx, N.thn_rt, Rs_seq, Rs_set, Rs_ret, Rs_expr, Rs_nil, Rs_if, Rs_asg, Rs_aug, R_call, R_cons, R_nil, R_Var, R_C, R_bin, R_cmp, R_tcmp, R_tOr, R_tAnd, R_tNot, R_tVal, R_tTrue, R_ite, R_eAnd, R_eOr, R_eNot, R_neg, R_tup, R_isi, R_some, Rc_some, N.v_eq, N.v_ne, N.v_lt, N.v_le, N.v_gt, N.v_ge, N.v_add, N.v_sub, N.v_iadd, N.v_xor, N.v_int, N.tru_b, N.pd_d, N.data_nil, N.data_cons, N.len_t, N.v_tupT, N.g_name, N.isNone_n, N.isNone_t, N.isNone_i, N.v_isN, N.v_isNn, N.v_eqB, N.v_neB, List.set_cons_succ, List.set_cons_zero, List.getElem?_cons_succ, List.getElem?_cons_zero, Bool.not_true, Bool.not_false, Bool.false_eq_true, Bool.true_eq_false, eq_self, true_implies, false_implies, true_and, and_true, decide_true, decide_false, Int.zero_add, N.R_sl, N.R_it, R_oNone, R_oSome, wipeN, N.R_lst, N.R_mkF, N.R_mkT, N.R_meth, N.v_addT, Ri_rng1, Ri_rng2, Ri_seq, List.map_cons, List.map_nil, List.cons_append, List.nil_append, List.length_cons, List.length_nil, List.replicate, Nat.reduceSub, Nat.reduceAdd, near_ok G hn he]
  have hll : (L.flatMap fun _ => L).length ≤ 10000 := by
    rw [List.length_flatMap, List.map_const', List.sum_replicate_nat]
    exact Nat.le_trans (Nat.mul_le_mul hl hl) (Nat.mul_le_mul hn hn)
  refine R_lc2G L (fun t => .d (.int (t : Nat))) (fun _ => L) (fun t => .d (.int (t : Nat))) (fun u v => prP (u, v)) (fun _ => true) (fun u v => crnB n es L u v) ?_ (fun u hu acc => ?_) (Nat.le_trans hll (by simp [lim])) ?_
  · exact Ri_LLn rfl l
  · rw [g_name, Rc_some, R_tTrue]
    refine ⟨rfl, rfl, fun _ => ⟨?_, fun v hv acc => ?_⟩⟩
    · exact Ri_LLnx rfl l
    · simp only [Rs_nil, R_call, R_cons, R_nil, R_Var, R_C, R_bin, R_cmp, R_tcmp, R_tOr, R_tAnd, R_tNot, R_tVal, R_tTrue, R_ite, R_eAnd, R_eOr, R_eNot, R_neg, R_tup, R_isi, R_some, Rc_some, N.v_eq, N.v_ne, N.v_lt, N.v_le, N.v_gt, N.v_ge, N.v_add, N.v_sub, N.v_iadd, N.v_xor, N.v_int, N.tru_b, N.pd_d, N.data_nil, N.data_cons, N.len_t, N.v_tupT, N.g_name, N.isNone_n, N.isNone_t, N.isNone_i, N.v_isN, N.v_isNn, N.v_eqB, N.v_neB, List.set_cons_succ, List.set_cons_zero, List.getElem?_cons_succ, List.getElem?_cons_zero, Bool.not_true, Bool.not_false, Bool.false_eq_true, Bool.true_eq_false, eq_self, true_implies, false_implies, true_and, and_true, decide_true, decide_false, Int.zero_add, N.R_sl, N.R_it, R_oNone, R_oSome, wipeN, N.R_lst, N.R_mkF, N.R_mkT, N.R_meth, N.v_addT, Ri_rng1, Ri_rng2, Ri_seq, corner_ok (l.app [.lst acc]) (hL u hu) (hL v hv) hn]
      exact fun _ => by simp [lim]
  · simp only [v_tupL, R_some, R_retd, trim_self]
    refine ⟨?_, trivial⟩
    unfold csP
    rw [List.map_flatMap, List.filter_eq_self.mpr (fun _ _ => rfl)]
    simp only [List.map_map]
    rfl
end
end N

namespace N
open PySem L2 PyProof.Rows

theorem rgI_nP (n : Nat) : rgI 0 (n : Nat) = nt (List.range n) := by
  unfold rgI nt
  rw [List.range_eq_range']
  simp [List.range_eq_range']
theorem R_lstRx {own : Bool} {ma : ME} {e : Lo} {s : Sto} {i : Nat} {Q : D → Sto → Prop} (h : R (ma e s) fun d s1 => d = .d (.int (i : Nat)) ∧ s1 = s) (hi : i ≤ 10000) (q : R (mkL own s ((nt (List.range i)).map .d)) Q) : R (eLstR own ma e s) Q := by
  obtain ⟨_, _, h1, rfl, rfl⟩ := h
  unfold eLstR
  simp only [h1]
  rw [if_pos ⟨by omega, by omega⟩, rgI_nP]
  exact q
section
variable {n : Nat} {es : List (Nat × Nat)} {L : List Nat} {s : Sto}
def wordP (b : Bool) : PyData := .str (if b then "apart" else "stuck")
def taD (n : Nat) (es : List (Nat × Nat)) : PyData := .tuple [wordP (taP n es n (List.range n) []).1, .tuple ((taP n es n (List.range n) []).2.map prP)]
theorem take_ok' (G : Pkr n es) (h0 : 0 < n) (hn : n ≤ 100) (he : es.length ≤ 10000) : m_take_apart s [.d (parD n es)] = some (.d (taD n es), s) := by
  apply R.eq
  unfold m_take_apart b_take_apart
  simp only [R_fn]
  refine ⟨rfl, ?_⟩
  simp only [List.map_cons, List.map_nil, List.cons_append, List.nil_append, List.length_cons, List.length_nil, List.replicate, Nat.reduceSub, Nat.reduceAdd]
  rw [Rs_seq, Rs_par, R_cons]
  refine R_lstRx (i := n) ?_ (by omega) ?_
  · simp only [Rs_nil, R_call, R_cons, R_nil, R_Var, R_C, R_bin, R_cmp, R_tcmp, R_tOr, R_tAnd, R_tNot, R_tVal, R_tTrue, R_ite, R_eAnd, R_eOr, R_eNot, R_neg, R_tup, R_isi, R_some, Rc_some, N.v_eq, N.v_ne, N.v_lt, N.v_le, N.v_gt, N.v_ge, N.v_add, N.v_sub, N.v_iadd, N.v_xor, N.v_int, N.tru_b, N.pd_d, N.data_nil, N.data_cons, N.len_t, N.v_tupT, N.g_name, N.isNone_n, N.isNone_t, N.isNone_i, N.v_isN, N.v_isNn, N.v_eqB, N.v_neB, List.set_cons_succ, List.set_cons_zero, List.getElem?_cons_succ, List.getElem?_cons_zero, Bool.not_true, Bool.not_false, Bool.false_eq_true, Bool.true_eq_false, eq_self, true_implies, false_implies, true_and, and_true, decide_true, decide_false, Int.zero_add, N.R_sl, N.R_it, R_oNone, R_oSome, wipeN, N.R_lst, N.R_mkF, N.R_mkT, N.R_meth, N.v_addT, Ri_rng1, Ri_rng2, Ri_seq]
    rw [itF_t (x := .int (n : Nat)) (by rfl), Rc_some]
  simp only [Rs_nil, R_call, R_cons, R_nil, R_Var, R_C, R_bin, R_cmp, R_tcmp, R_tOr, R_tAnd, R_tNot, R_tVal, R_tTrue, R_ite, R_eAnd, R_eOr, R_eNot, R_neg, R_tup, R_isi, R_some, Rc_some, N.v_eq, N.v_ne, N.v_lt, N.v_le, N.v_gt, N.v_ge, N.v_add, N.v_sub, N.v_iadd, N.v_xor, N.v_int, N.tru_b, N.pd_d, N.data_nil, N.data_cons, N.len_t, N.v_tupT, N.g_name, N.isNone_n, N.isNone_t, N.isNone_i, N.v_isN, N.v_isNn, N.v_eqB, N.v_neB, List.set_cons_succ, List.set_cons_zero, List.getElem?_cons_succ, List.getElem?_cons_zero, Bool.not_true, Bool.not_false, Bool.false_eq_true, Bool.true_eq_false, eq_self, true_implies, false_implies, true_and, and_true, decide_true, decide_false, Int.zero_add, N.R_sl, N.R_it, R_oNone, R_oSome, wipeN, N.R_lst, N.R_mkF, N.R_mkT, N.R_meth, N.v_addT, Ri_rng1, Ri_rng2, Ri_seq]
  refine ⟨by simp [lim], by trivial, ?_⟩
  simp only [List.zip_cons_cons, List.zip_nil_right, List.foldl_cons, List.foldl_nil, List.set_cons_succ, List.set_cons_zero, List.length_append, List.length_cons, List.length_nil, Nat.zero_add, N.thn_nx]
  rw [Rs_seq]
  refine Rs_while (fun m e s' => ∃ L F, L.length ≤ m ∧ L.length ≤ n ∧ F.length ≤ n - m ∧ m ≤ n ∧ LOk n es L ∧ taP n es m L F = taP n es n (List.range n) [] ∧ s' = s ++ [.lst ((nt L).map .d), .lst ((F.map prP).map .d)] ∧ e = [some (.d (parD n es)), some (.r s.length), some (.r (s.length + 1)), none]) (m := n) (Nat.lt_of_le_of_lt hn (by decide)) ⟨List.range n, [], by simp, by simp, by simp, Nat.le_refl _, LOk.start h0, rfl, by simp, rfl⟩ (fun m e s' hi => ?_)
  obtain ⟨L, F, h1, h2, h3, h4, l, h5, rfl, rfl⟩ := hi
  have g0 : (s ++ [Cell.lst ((nt L).map D.d), .lst ((F.map prP).map D.d)])[s.length]? = some (.lst ((nt L).map D.d)) := by simp
  have g1 : (s ++ [Cell.lst ((nt L).map D.d), .lst ((F.map prP).map D.d)])[s.length + 1]? = some (.lst ((F.map prP).map D.d)) := by
    rw [List.getElem?_append_right (by omega), show s.length + 1 - s.length = 1 by omega]
    rfl
  have ll : LL (s ++ [Cell.lst ((nt L).map D.d), .lst ((F.map prP).map D.d)]) (.r s.length) (nt L) := .inr (.inr ⟨_, rfl, g0⟩)
  simp only [N.thn_nx, N.thn_rt, Rs_seq, Rs_set, Rs_ret, Rs_expr, Rs_nil, Rs_if, Rs_asg, Rs_aug, R_call, R_cons, R_nil, R_Var, R_C, R_bin, R_cmp, R_tcmp, R_tOr, R_tAnd, R_tNot, R_tVal, R_tTrue, R_ite, R_eAnd, R_eOr, R_eNot, R_neg, R_tup, R_isi, R_some, Rc_some, N.v_eq, N.v_ne, N.v_lt, N.v_le, N.v_gt, N.v_ge, N.v_add, N.v_sub, N.v_iadd, N.v_xor, N.v_int, N.tru_b, N.pd_d, N.data_nil, N.data_cons, N.len_t, N.v_tupT, N.g_name, N.isNone_n, N.isNone_t, N.isNone_i, N.v_isN, N.v_isNn, N.v_eqB, N.v_neB, List.set_cons_succ, List.set_cons_zero, List.getElem?_cons_succ, List.getElem?_cons_zero, Bool.not_true, Bool.not_false, Bool.false_eq_true, Bool.true_eq_false, eq_self, true_implies, false_implies, true_and, and_true, decide_true, decide_false, Int.zero_add, N.R_sl, N.R_it, R_oNone, R_oSome, wipeN, N.R_lst, N.R_mkF, N.R_mkT, N.R_meth, N.v_addT, Ri_rng1, Ri_rng2, Ri_seq, len_LL ll]
  refine ⟨fun hb => ?_, fun hb => ?_⟩
  · have hb : L.length ≤ 1 := by
      have := of_decide_eq_false hb
      simp [nt] at this
      omega
    simp only [v_tupR g1, R_some, N.data_cons, N.data_nil, Rc_some, R_retd, trim_app]
    refine ⟨by simp [lim], ?_, trivial⟩
    unfold taD
    rw [← h5]
    have hx : taP n es m L F = (true, F) := by
      cases m with
      | zero => rfl
      | succ m => unfold taP; rw [if_pos hb]
    rw [hx]
    rfl
  · have hb : 1 < L.length := by
      have := of_decide_eq_true hb
      simp [nt] at this
      omega
    have hm : ∃ k, m = k + 1 := ⟨m - 1, by omega⟩
    obtain ⟨k, rfl⟩ := hm
    rw [corners_ok G ll l.lt h2 hn he, R_some]
    have hx : taP n es (k + 1) L F = match csP n es L with
      | [] => (false, F)
      | p :: _ => taP n es k (L.erase p.1) (F ++ [p]) := by
      rw [taP_succ, if_neg (by omega)]
      try (cases csP n es L <;> rfl)
    simp only [N.thn_nx, N.thn_rt, Rs_seq, Rs_set, Rs_ret, Rs_expr, Rs_nil, Rs_if, Rs_asg, Rs_aug, R_call, R_cons, R_nil, R_Var, R_C, R_bin, R_cmp, R_tcmp, R_tOr, R_tAnd, R_tNot, R_tVal, R_tTrue, R_ite, R_eAnd, R_eOr, R_eNot, R_neg, R_tup, R_isi, R_some, Rc_some, N.v_eq, N.v_ne, N.v_lt, N.v_le, N.v_gt, N.v_ge, N.v_add, N.v_sub, N.v_iadd, N.v_xor, N.v_int, N.tru_b, N.pd_d, N.data_nil, N.data_cons, N.len_t, N.v_tupT, N.g_name, N.isNone_n, N.isNone_t, N.isNone_i, N.v_isN, N.v_isNn, N.v_eqB, N.v_neB, List.set_cons_succ, List.set_cons_zero, List.getElem?_cons_succ, List.getElem?_cons_zero, Bool.not_true, Bool.not_false, Bool.false_eq_true, Bool.true_eq_false, eq_self, true_implies, false_implies, true_and, and_true, decide_true, decide_false, Int.zero_add, N.R_sl, N.R_it, R_oNone, R_oSome, wipeN, N.R_lst, N.R_mkF, N.R_mkT, N.R_meth, N.v_addT, Ri_rng1, Ri_rng2, Ri_seq, N.tru_t]
    refine ⟨fun hc => ?_, fun hc => ?_⟩
    · have hc : csP n es L = [] := by
        cases h : csP n es L with
        | nil => rfl
        | cons p r => simp [h] at hc
      simp only [v_tupR g1, R_some, N.data_cons, N.data_nil, Rc_some, aft_rt]
      refine ⟨by simp [lim], ?_⟩
      simp only [N.thn_rt, R_retd, trim_app, and_true]
      unfold taD
      rw [← h5, hx, hc]
      rfl
    · obtain ⟨p, r, hcs⟩ : ∃ p r, csP n es L = p :: r := by
        cases h : csP n es L with
        | nil => simp [h] at hc
        | cons p r => exact ⟨p, r, rfl⟩
      have hp := mem_cs.mp (show p ∈ csP n es L by rw [hcs]; exact List.mem_cons_self)
      have i0 : ∀ s' : Sto, itF s' (.d (.tuple ((csP n es L).map prP))) (.d (.int 0)) = some (.d (prP p)) := fun s' => by
        rw [hcs]
        exact itF_t (atI_nat (i := 0) (by rfl))
      have i1 : ∀ s' : Sto, itF s' (.d (prP p)) (.d (.int 0)) = some (.d (.int (p.1 : Nat))) := fun s' => itF_t (by rfl)
      simp only [i0, i1, Rc_some, g1, N.v_app, List.length_map]
      refine ⟨by simp only [lim]; omega, ?_⟩
      have s1 : (s ++ [Cell.lst ((nt L).map D.d), .lst ((F.map prP).map D.d)]).set (s.length + 1) (.lst ((F.map prP).map D.d ++ [.d (prP p)])) = s ++ [Cell.lst ((nt L).map D.d), .lst (((F ++ [p]).map prP).map D.d)] := by
        rw [List.set_append_right _ _ (by omega), show s.length + 1 - s.length = 1 by omega]
        simp
      rw [s1]
      have g2 : (s ++ [Cell.lst ((nt L).map D.d), .lst (((F ++ [p]).map prP).map D.d)])[s.length]? = some (.lst ((nt L).map D.d)) := by simp
      simp only [N.thn_nx, N.thn_rt, Rs_seq, Rs_set, Rs_ret, Rs_expr, Rs_nil, Rs_if, Rs_asg, Rs_aug, R_call, R_cons, R_nil, R_Var, R_C, R_bin, R_cmp, R_tcmp, R_tOr, R_tAnd, R_tNot, R_tVal, R_tTrue, R_ite, R_eAnd, R_eOr, R_eNot, R_neg, R_tup, R_isi, R_some, Rc_some, N.v_eq, N.v_ne, N.v_lt, N.v_le, N.v_gt, N.v_ge, N.v_add, N.v_sub, N.v_iadd, N.v_xor, N.v_int, N.tru_b, N.pd_d, N.data_nil, N.data_cons, N.len_t, N.v_tupT, N.g_name, N.isNone_n, N.isNone_t, N.isNone_i, N.v_isN, N.v_isNn, N.v_eqB, N.v_neB, List.set_cons_succ, List.set_cons_zero, List.getElem?_cons_succ, List.getElem?_cons_zero, Bool.not_true, Bool.not_false, Bool.false_eq_true, Bool.true_eq_false, eq_self, true_implies, false_implies, true_and, and_true, decide_true, decide_false, Int.zero_add, N.R_sl, N.R_it, R_oNone, R_oSome, wipeN, N.R_lst, N.R_mkF, N.R_mkT, N.R_meth, N.v_addT, Ri_rng1, Ri_rng2, Ri_seq, g2, i0, i1]
      refine v_rem hp.1 ?_
      have s2 : (s ++ [Cell.lst ((nt L).map D.d), .lst (((F ++ [p]).map prP).map D.d)]).set s.length (.lst ((nt (L.erase p.1)).map D.d)) = s ++ [Cell.lst ((nt (L.erase p.1)).map D.d), .lst (((F ++ [p]).map prP).map D.d)] := by
        rw [List.set_append_right _ _ (Nat.le_refl _), Nat.sub_self]
        rfl
      rw [s2, aft_nx, trimE_len (by simp)]
      have le := List.length_erase_of_mem hp.1
      refine ⟨k, by omega, L.erase p.1, F ++ [p], by omega, by omega, by simp; omega, by omega, l.step hp.1 hp.2.1 hp.2.2, ?_, rfl, by simp [wipeN]⟩
      rw [← h5, hx, hcs]
end
end N

namespace N
open PySem L2 PyProof.Rows

section
variable {n : Nat} {es : List (Nat × Nat)} {L : List Nat} {s : Sto}
theorem dP_iff {x : PyData} {p : Nat × Nat} : dP n x = some p ↔ x = prP p ∧ p.1 < n ∧ p.2 < n := by
  constructor
  · intro h
    unfold dP at h
    split at h
    · rename_i i j
      split at h
      · rename_i hc
        cases h
        refine ⟨?_, by simp only []; omega, by simp only []; omega⟩
        unfold prP
        simp only []
        rw [Int.toNat_of_nonneg hc.1, Int.toNat_of_nonneg hc.2.2.1]
      · cases h
    · cases h
  · rintro ⟨rfl, h1, h2⟩
    exact dP_pr h1 h2
theorem isN_iff (hn : 0 < n) (x : PyData) : isN 0 ((n : Nat) - 1) x = true ↔ ∃ i : Nat, x = .int (i : Nat) ∧ i < n := by
  constructor
  · intro h
    cases x with
    | int i =>
      simp only [isN, Bool.and_eq_true, decide_eq_true_eq] at h
      exact ⟨i.toNat, by rw [Int.toNat_of_nonneg h.1], by omega⟩
    | _ => simp [isN] at h
  · rintro ⟨i, rfl, hi⟩
    simp only [isN, Bool.and_eq_true, decide_eq_true_eq]
    omega
theorem tup_or (x : PyData) : (∃ ys, x = .tuple ys) ∨ TyT.tup.of x = false := by
  cases x <;> first | exact .inl ⟨_, rfl⟩ | exact .inr rfl
theorem two_or (ys : List PyData) : (∃ a b, ys = [a, b]) ∨ ys.length ≠ 2 := by
  match ys with
  | [] => right; simp
  | [a] => right; simp
  | [a, b] => left; exact ⟨a, b, rfl⟩
  | a :: b :: c :: r => right; simp
theorem dP_not {x : PyData} (h : TyT.tup.of x = false) : dP n x = none := by
  cases x <;> first | rfl | (cases h)
theorem dP_len {ys : List PyData} (h : ys.length ≠ 2) : dP n (.tuple ys) = none := by
  match ys, h with
  | [], _ => rfl
  | [a], _ => cases a <;> rfl
  | [a, b], h => exact (h rfl).elim
  | a :: b :: c :: r, _ => cases a <;> cases b <;> rfl
theorem it_1 {xs : List PyData} {x : PyData} {s : Sto} (h : xs[0]? = some x) : itF s (.d (.tuple xs)) (.d (.int 0)) = some (.d x) := itF_t (atI_nat (i := 0) h)
theorem it_2 {xs : List PyData} {x : PyData} {s : Sto} (h : xs[1]? = some x) : itF s (.d (.tuple xs)) (.d (.int 1)) = some (.d x) := itF_t (atI_nat (i := 1) h)
theorem left_okP (G : Pkr n es) (h0 : 0 < n) (hn : n ≤ 100) (he : es.length ≤ 10000) (x : PyData) : m_left_behind s [.d (parD n es), .d x] = some (.d (lbV n es x), s) := by
  apply R.eq
  unfold m_left_behind b_left_behind
  simp only [R_fn]
  refine ⟨rfl, ?_⟩
  simp only [List.map_cons, List.map_nil, List.cons_append, List.nil_append, List.length_cons, List.length_nil, List.replicate, Nat.reduceSub, Nat.reduceAdd]
  rw [Rs_seq, Rs_if]
  rcases tup_or x with ⟨xs, rfl⟩ | hx
  case inr =>
    simp only [N.thn_nx, N.thn_rt, Rs_seq, Rs_set, Rs_ret, Rs_expr, Rs_nil, Rs_if, Rs_asg, Rs_aug, R_call, R_cons, R_nil, R_Var, R_C, R_bin, R_cmp, R_tcmp, R_tOr, R_tAnd, R_tNot, R_tVal, R_tTrue, R_ite, R_eAnd, R_eOr, R_eNot, R_neg, R_tup, R_isi, R_some, Rc_some, N.v_eq, N.v_ne, N.v_lt, N.v_le, N.v_gt, N.v_ge, N.v_add, N.v_sub, N.v_iadd, N.v_xor, N.v_int, N.tru_b, N.pd_d, N.data_nil, N.data_cons, N.len_t, N.v_tupT, N.g_name, N.isNone_n, N.isNone_t, N.isNone_i, N.v_isN, N.v_isNn, N.v_eqB, N.v_neB, List.set_cons_succ, List.set_cons_zero, List.getElem?_cons_succ, List.getElem?_cons_zero, Bool.not_true, Bool.not_false, Bool.false_eq_true, Bool.true_eq_false, eq_self, true_implies, false_implies, true_and, and_true, decide_true, decide_false, Int.zero_add, N.R_sl, N.R_it, R_oNone, R_oSome, wipeN, N.R_lst, N.R_mkF, N.R_mkT, N.R_meth, N.v_addT, Ri_rng1, Ri_rng2, Ri_seq, hx, R_retd, trim_self]
    cases x <;> first | rfl | cases hx
  simp only [Rs_nil, R_call, R_cons, R_nil, R_Var, R_C, R_bin, R_cmp, R_tcmp, R_tOr, R_tAnd, R_tNot, R_tVal, R_tTrue, R_ite, R_eAnd, R_eOr, R_eNot, R_neg, R_tup, R_isi, R_some, Rc_some, N.v_eq, N.v_ne, N.v_lt, N.v_le, N.v_gt, N.v_ge, N.v_add, N.v_sub, N.v_iadd, N.v_xor, N.v_int, N.tru_b, N.pd_d, N.data_nil, N.data_cons, N.len_t, N.v_tupT, N.g_name, N.isNone_n, N.isNone_t, N.isNone_i, N.v_isN, N.v_isNn, N.v_eqB, N.v_neB, List.set_cons_succ, List.set_cons_zero, List.getElem?_cons_succ, List.getElem?_cons_zero, Bool.not_true, Bool.not_false, Bool.false_eq_true, Bool.true_eq_false, eq_self, true_implies, false_implies, true_and, and_true, decide_true, decide_false, Int.zero_add, N.R_sl, N.R_it, R_oNone, R_oSome, wipeN, N.R_lst, N.R_mkF, N.R_mkT, N.R_meth, N.v_addT, Ri_rng1, Ri_rng2, Ri_seq, show TyT.tup.of (.tuple xs) = true from rfl]
  rw [N.thn_nx, Rs_seq, Rs_par, R_cons]
  simp only [Rs_nil, R_call, R_cons, R_nil, R_Var, R_C, R_bin, R_cmp, R_tcmp, R_tOr, R_tAnd, R_tNot, R_tVal, R_tTrue, R_ite, R_eAnd, R_eOr, R_eNot, R_neg, R_tup, R_isi, R_some, Rc_some, N.v_eq, N.v_ne, N.v_lt, N.v_le, N.v_gt, N.v_ge, N.v_add, N.v_sub, N.v_iadd, N.v_xor, N.v_int, N.tru_b, N.pd_d, N.data_nil, N.data_cons, N.len_t, N.v_tupT, N.g_name, N.isNone_n, N.isNone_t, N.isNone_i, N.v_isN, N.v_isNn, N.v_eqB, N.v_neB, List.set_cons_succ, List.set_cons_zero, List.getElem?_cons_succ, List.getElem?_cons_zero, Bool.not_true, Bool.not_false, Bool.false_eq_true, Bool.true_eq_false, eq_self, true_implies, false_implies, true_and, and_true, decide_true, decide_false, Int.zero_add, N.R_sl, N.R_it, R_oNone, R_oSome, wipeN, N.R_lst, N.R_mkF, N.R_mkT, N.R_meth, N.v_addT, Ri_rng1, Ri_rng2, Ri_seq, near_ok G hn he]
  refine R_lstRx (i := n) ?_ (by omega) ?_
  · simp only [Rs_nil, R_call, R_cons, R_nil, R_Var, R_C, R_bin, R_cmp, R_tcmp, R_tOr, R_tAnd, R_tNot, R_tVal, R_tTrue, R_ite, R_eAnd, R_eOr, R_eNot, R_neg, R_tup, R_isi, R_some, Rc_some, N.v_eq, N.v_ne, N.v_lt, N.v_le, N.v_gt, N.v_ge, N.v_add, N.v_sub, N.v_iadd, N.v_xor, N.v_int, N.tru_b, N.pd_d, N.data_nil, N.data_cons, N.len_t, N.v_tupT, N.g_name, N.isNone_n, N.isNone_t, N.isNone_i, N.v_isN, N.v_isNn, N.v_eqB, N.v_neB, List.set_cons_succ, List.set_cons_zero, List.getElem?_cons_succ, List.getElem?_cons_zero, Bool.not_true, Bool.not_false, Bool.false_eq_true, Bool.true_eq_false, eq_self, true_implies, false_implies, true_and, and_true, decide_true, decide_false, Int.zero_add, N.R_sl, N.R_it, R_oNone, R_oSome, wipeN, N.R_lst, N.R_mkF, N.R_mkT, N.R_meth, N.v_addT, Ri_rng1, Ri_rng2, Ri_seq]
    rw [itF_t (x := .int (n : Nat)) (by rfl), Rc_some]
  simp only [Rs_nil, R_call, R_cons, R_nil, R_Var, R_C, R_bin, R_cmp, R_tcmp, R_tOr, R_tAnd, R_tNot, R_tVal, R_tTrue, R_ite, R_eAnd, R_eOr, R_eNot, R_neg, R_tup, R_isi, R_some, Rc_some, N.v_eq, N.v_ne, N.v_lt, N.v_le, N.v_gt, N.v_ge, N.v_add, N.v_sub, N.v_iadd, N.v_xor, N.v_int, N.tru_b, N.pd_d, N.data_nil, N.data_cons, N.len_t, N.v_tupT, N.g_name, N.isNone_n, N.isNone_t, N.isNone_i, N.v_isN, N.v_isNn, N.v_eqB, N.v_neB, List.set_cons_succ, List.set_cons_zero, List.getElem?_cons_succ, List.getElem?_cons_zero, Bool.not_true, Bool.not_false, Bool.false_eq_true, Bool.true_eq_false, eq_self, true_implies, false_implies, true_and, and_true, decide_true, decide_false, Int.zero_add, N.R_sl, N.R_it, R_oNone, R_oSome, wipeN, N.R_lst, N.R_mkF, N.R_mkT, N.R_meth, N.v_addT, Ri_rng1, Ri_rng2, Ri_seq]
  refine ⟨by trivial, ?_⟩
  simp only [List.zip_cons_cons, List.zip_nil_right, List.foldl_cons, List.foldl_nil, List.set_cons_succ, List.set_cons_zero, List.length_append, List.length_cons, List.length_nil, Nat.zero_add, N.thn_nx]
  rw [Rs_seq]
  have lbn : ∀ {ys zs : List PyData}, xs = ys ++ zs → leftX n es ys (List.range n) = none → lbV n es (.tuple xs) = .none := by
    rintro ys zs rfl h
    unfold lbV lbD
    simp only [leftX_app, h, Option.bind_none]
  refine Rs_for xs .d (fun k e s' => ∃ M o1 o2 o3 o4, leftX n es (xs.take k) (List.range n) = some M ∧ LOk n es M ∧ M.length ≤ n ∧ s' = s ++ [.lst ((nt M).map .d)] ∧ e = [some (.d (parD n es)), some (.d (.tuple xs)), some (.d (.tuple ((rwP n es).map tup))), some (.r s.length), o1, o2, o3, o4]) ?_ (fun k x e s' hk hq => ?_) (fun e s' hq => ?_)
  · exact ⟨_, _, _, rfl, rfl, rfl, List.range n, none, none, none, none, rfl, LOk.start h0, by simp, rfl, rfl⟩
  · obtain ⟨M, o1, o2, o3, o4, h1, l, hml, rfl, rfl⟩ := hq
    obtain ⟨hkl, hkx⟩ := List.getElem?_eq_some_iff.mp hk
    have sp : xs = (xs.take k ++ [x]) ++ xs.drop (k + 1) := by
      rw [← hkx, List.take_append_getElem hkl, List.take_append_drop]
    have tk : xs.take (k + 1) = xs.take k ++ [x] := by
      rw [List.take_add_one, hk]
      rfl
    have bad : dP n x = none → lbV n es (.tuple xs) = .none := fun hd => lbn sp (by
      rw [leftX_app, h1, Option.bind_some]
      unfold leftX
      rw [hd])
    have g0 : (s ++ [Cell.lst ((nt M).map D.d)])[s.length]? = some (.lst ((nt M).map D.d)) := by simp
    have ll : LL (s ++ [Cell.lst ((nt M).map D.d)]) (.r s.length) (nt M) := .inr (.inr ⟨_, rfl, g0⟩)
    have retn : ∀ {s0 : Sto}, lbV n es (.tuple xs) = .none → R (ret false s (.d .none) (s ++ s0)) fun y s' => y = .d (lbV n es (.tuple xs)) ∧ s' = s := fun {s0} h => by
      rw [R_retd, trim_app, h]
      exact ⟨rfl, rfl⟩
    rw [g_name, Rc_some, Rs_seq, Rs_if]
    rcases tup_or x with ⟨ys, rfl⟩ | hx
    case inr =>
      simp only [N.thn_nx, N.thn_rt, Rs_seq, Rs_set, Rs_ret, Rs_expr, Rs_nil, Rs_if, Rs_asg, Rs_aug, R_call, R_cons, R_nil, R_Var, R_C, R_bin, R_cmp, R_tcmp, R_tOr, R_tAnd, R_tNot, R_tVal, R_tTrue, R_ite, R_eAnd, R_eOr, R_eNot, R_neg, R_tup, R_isi, R_some, Rc_some, N.v_eq, N.v_ne, N.v_lt, N.v_le, N.v_gt, N.v_ge, N.v_add, N.v_sub, N.v_iadd, N.v_xor, N.v_int, N.tru_b, N.pd_d, N.data_nil, N.data_cons, N.len_t, N.v_tupT, N.g_name, N.isNone_n, N.isNone_t, N.isNone_i, N.v_isN, N.v_isNn, N.v_eqB, N.v_neB, List.set_cons_succ, List.set_cons_zero, List.getElem?_cons_succ, List.getElem?_cons_zero, Bool.not_true, Bool.not_false, Bool.false_eq_true, Bool.true_eq_false, eq_self, true_implies, false_implies, true_and, and_true, decide_true, decide_false, Int.zero_add, N.R_sl, N.R_it, R_oNone, R_oSome, wipeN, N.R_lst, N.R_mkF, N.R_mkT, N.R_meth, N.v_addT, Ri_rng1, Ri_rng2, Ri_seq, hx, aft_rt]
      exact retn (bad (dP_not hx))
    rcases two_or ys with ⟨a, b, rfl⟩ | hl
    case inr =>
      have hl2 : decide ((ys.length : Int) = 2) = false := by
        rw [decide_eq_false_iff_not]
        omega
      simp only [N.thn_nx, N.thn_rt, Rs_seq, Rs_set, Rs_ret, Rs_expr, Rs_nil, Rs_if, Rs_asg, Rs_aug, R_call, R_cons, R_nil, R_Var, R_C, R_bin, R_cmp, R_tcmp, R_tOr, R_tAnd, R_tNot, R_tVal, R_tTrue, R_ite, R_eAnd, R_eOr, R_eNot, R_neg, R_tup, R_isi, R_some, Rc_some, N.v_eq, N.v_ne, N.v_lt, N.v_le, N.v_gt, N.v_ge, N.v_add, N.v_sub, N.v_iadd, N.v_xor, N.v_int, N.tru_b, N.pd_d, N.data_nil, N.data_cons, N.len_t, N.v_tupT, N.g_name, N.isNone_n, N.isNone_t, N.isNone_i, N.v_isN, N.v_isNn, N.v_eqB, N.v_neB, List.set_cons_succ, List.set_cons_zero, List.getElem?_cons_succ, List.getElem?_cons_zero, Bool.not_true, Bool.not_false, Bool.false_eq_true, Bool.true_eq_false, eq_self, true_implies, false_implies, true_and, and_true, decide_true, decide_false, Int.zero_add, N.R_sl, N.R_it, R_oNone, R_oSome, wipeN, N.R_lst, N.R_mkF, N.R_mkT, N.R_meth, N.v_addT, Ri_rng1, Ri_rng2, Ri_seq, show TyT.tup.of (.tuple ys) = true from rfl, hl2, aft_rt]
      exact retn (bad (dP_len hl))
    simp only [N.thn_nx, N.thn_rt, Rs_seq, Rs_set, Rs_ret, Rs_expr, Rs_nil, Rs_if, Rs_asg, Rs_aug, R_call, R_cons, R_nil, R_Var, R_C, R_bin, R_cmp, R_tcmp, R_tOr, R_tAnd, R_tNot, R_tVal, R_tTrue, R_ite, R_eAnd, R_eOr, R_eNot, R_neg, R_tup, R_isi, R_some, Rc_some, N.v_eq, N.v_ne, N.v_lt, N.v_le, N.v_gt, N.v_ge, N.v_add, N.v_sub, N.v_iadd, N.v_xor, N.v_int, N.tru_b, N.pd_d, N.data_nil, N.data_cons, N.len_t, N.v_tupT, N.g_name, N.isNone_n, N.isNone_t, N.isNone_i, N.v_isN, N.v_isNn, N.v_eqB, N.v_neB, List.set_cons_succ, List.set_cons_zero, List.getElem?_cons_succ, List.getElem?_cons_zero, Bool.not_true, Bool.not_false, Bool.false_eq_true, Bool.true_eq_false, eq_self, true_implies, false_implies, true_and, and_true, decide_true, decide_false, Int.zero_add, N.R_sl, N.R_it, R_oNone, R_oSome, wipeN, N.R_lst, N.R_mkF, N.R_mkT, N.R_meth, N.v_addT, Ri_rng1, Ri_rng2, Ri_seq, show TyT.tup.of (.tuple [a, b]) = true from rfl, List.length_cons, List.length_nil, show decide ((((0 + 1 + 1 : Nat)) : Int) = 2) = true from rfl]
    refine R_lcmG [a, b] .d (fun x => .bool (isN 0 ((n : Nat) - 1) x)) ?_ (fun x hx acc => ?_) (by simp [lim]) ?_
    · simp only [Rs_nil, R_call, R_cons, R_nil, R_Var, R_C, R_bin, R_cmp, R_tcmp, R_tOr, R_tAnd, R_tNot, R_tVal, R_tTrue, R_ite, R_eAnd, R_eOr, R_eNot, R_neg, R_tup, R_isi, R_some, Rc_some, N.v_eq, N.v_ne, N.v_lt, N.v_le, N.v_gt, N.v_ge, N.v_add, N.v_sub, N.v_iadd, N.v_xor, N.v_int, N.tru_b, N.pd_d, N.data_nil, N.data_cons, N.len_t, N.v_tupT, N.g_name, N.isNone_n, N.isNone_t, N.isNone_i, N.v_isN, N.v_isNn, N.v_eqB, N.v_neB, List.set_cons_succ, List.set_cons_zero, List.getElem?_cons_succ, List.getElem?_cons_zero, Bool.not_true, Bool.not_false, Bool.false_eq_true, Bool.true_eq_false, eq_self, true_implies, false_implies, true_and, and_true, decide_true, decide_false, Int.zero_add, N.R_sl, N.R_it, R_oNone, R_oSome, wipeN, N.R_lst, N.R_mkF, N.R_mkT, N.R_meth, N.v_addT, Ri_rng1, Ri_rng2, Ri_seq]
      exact CkA.none _
    · simp only [Rs_nil, R_call, R_cons, R_nil, R_Var, R_C, R_bin, R_cmp, R_tcmp, R_tOr, R_tAnd, R_tNot, R_tVal, R_tTrue, R_ite, R_eAnd, R_eOr, R_eNot, R_neg, R_tup, R_isi, R_some, Rc_some, N.v_eq, N.v_ne, N.v_lt, N.v_le, N.v_gt, N.v_ge, N.v_add, N.v_sub, N.v_iadd, N.v_xor, N.v_int, N.tru_b, N.pd_d, N.data_nil, N.data_cons, N.len_t, N.v_tupT, N.g_name, N.isNone_n, N.isNone_t, N.isNone_i, N.v_isN, N.v_isNn, N.v_eqB, N.v_neB, List.set_cons_succ, List.set_cons_zero, List.getElem?_cons_succ, List.getElem?_cons_zero, Bool.not_true, Bool.not_false, Bool.false_eq_true, Bool.true_eq_false, eq_self, true_implies, false_implies, true_and, and_true, decide_true, decide_false, Int.zero_add, N.R_sl, N.R_it, R_oNone, R_oSome, wipeN, N.R_lst, N.R_mkF, N.R_mkT, N.R_meth, N.v_addT, Ri_rng1, Ri_rng2, Ri_seq]
      rw [itF_t (x := .int (n : Nat)) (by rfl), Rc_some]
      simp only [Rs_nil, R_call, R_cons, R_nil, R_Var, R_C, R_bin, R_cmp, R_tcmp, R_tOr, R_tAnd, R_tNot, R_tVal, R_tTrue, R_ite, R_eAnd, R_eOr, R_eNot, R_neg, R_tup, R_isi, R_some, Rc_some, N.v_eq, N.v_ne, N.v_lt, N.v_le, N.v_gt, N.v_ge, N.v_add, N.v_sub, N.v_iadd, N.v_xor, N.v_int, N.tru_b, N.pd_d, N.data_nil, N.data_cons, N.len_t, N.v_tupT, N.g_name, N.isNone_n, N.isNone_t, N.isNone_i, N.v_isN, N.v_isNn, N.v_eqB, N.v_neB, List.set_cons_succ, List.set_cons_zero, List.getElem?_cons_succ, List.getElem?_cons_zero, Bool.not_true, Bool.not_false, Bool.false_eq_true, Bool.true_eq_false, eq_self, true_implies, false_implies, true_and, and_true, decide_true, decide_false, Int.zero_add, N.R_sl, N.R_it, R_oNone, R_oSome, wipeN, N.R_lst, N.R_mkF, N.R_mkT, N.R_meth, N.v_addT, Ri_rng1, Ri_rng2, Ri_seq, number_ok]
    rw [all_map, R_some, tru_b, Rc_some]
    refine ⟨fun hb => ?_, fun hb => ?_⟩
    · rw [aft_rt]
      refine retn (bad ?_)
      rcases hd : dP n (.tuple [a, b]) with _ | p
      · rfl
      · obtain ⟨e1, e2, e3⟩ := dP_iff.mp hd
        cases e1
        have i1 := (isN_iff h0 (.int (p.1 : Nat))).mpr ⟨_, rfl, e2⟩
        have i2 := (isN_iff h0 (.int (p.2 : Nat))).mpr ⟨_, rfl, e3⟩
        simp [i1, i2] at hb
    · have hb : isN 0 ((n : Nat) - 1) a = true ∧ isN 0 ((n : Nat) - 1) b = true := by simpa using hb
      obtain ⟨i, rfl, hi⟩ := (isN_iff h0 a).mp hb.1
      obtain ⟨j, rfl, hj⟩ := (isN_iff h0 b).mp hb.2
      have hd : dP n (.tuple [.int (i : Nat), .int (j : Nat)]) = some (i, j) := dP_pr (p := (i, j)) hi hj
      have bad2 : ¬ (i ∈ M ∧ j ∈ M ∧ crnB n es M i j = true) → lbV n es (.tuple xs) = .none := fun hc => lbn sp (by
        rw [leftX_app, h1, Option.bind_some]
        unfold leftX
        rw [hd]
        simp only [if_neg hc])
      have good : i ∈ M → j ∈ M → crnB n es M i j = true → leftX n es (xs.take (k + 1)) (List.range n) = some (M.erase i) := fun h2 h3 h4 => by
        rw [tk]
        exact leftX_one (p := (i, j)) l h1 (mem_cs.mpr ⟨h2, h3, h4⟩)
      simp only [N.thn_nx, N.thn_rt, Rs_seq, Rs_set, Rs_ret, Rs_expr, Rs_nil, Rs_if, Rs_asg, Rs_aug, R_call, R_cons, R_nil, R_Var, R_C, R_bin, R_cmp, R_tcmp, R_tOr, R_tAnd, R_tNot, R_tVal, R_tTrue, R_ite, R_eAnd, R_eOr, R_eNot, R_neg, R_tup, R_isi, R_some, Rc_some, N.v_eq, N.v_ne, N.v_lt, N.v_le, N.v_gt, N.v_ge, N.v_add, N.v_sub, N.v_iadd, N.v_xor, N.v_int, N.tru_b, N.pd_d, N.data_nil, N.data_cons, N.len_t, N.v_tupT, N.g_name, N.isNone_n, N.isNone_t, N.isNone_i, N.v_isN, N.v_isNn, N.v_eqB, N.v_neB, List.set_cons_succ, List.set_cons_zero, List.getElem?_cons_succ, List.getElem?_cons_zero, Bool.not_true, Bool.not_false, Bool.false_eq_true, Bool.true_eq_false, eq_self, true_implies, false_implies, true_and, and_true, decide_true, decide_false, Int.zero_add, N.R_sl, N.R_it, R_oNone, R_oSome, wipeN, N.R_lst, N.R_mkF, N.R_mkT, N.R_meth, N.v_addT, Ri_rng1, Ri_rng2, Ri_seq, N.g_tup, N.gs_cons, N.gs_nil, N.gs_len, List.length_cons, List.length_nil, if_true, Nat.reduceAdd, in_LLn ll, corner_ok ll hi hj hn]
      refine ⟨fun h2 => ⟨fun h3 => ⟨fun h4 => ?_, fun h4 => ?_⟩, fun h3 => ?_⟩, fun h2 => ?_⟩
      · rw [aft_rt]
        exact retn (bad2 fun hc => by simp [hc.2.2] at h4)
      · have h2 : i ∈ M := by simpa using h2
        have h3 : j ∈ M := by simpa using h3
        have h4 : crnB n es M i j = true := by simpa using h4
        simp only [N.thn_nx, N.thn_rt, Rs_seq, Rs_set, Rs_ret, Rs_expr, Rs_nil, Rs_if, Rs_asg, Rs_aug, R_call, R_cons, R_nil, R_Var, R_C, R_bin, R_cmp, R_tcmp, R_tOr, R_tAnd, R_tNot, R_tVal, R_tTrue, R_ite, R_eAnd, R_eOr, R_eNot, R_neg, R_tup, R_isi, R_some, Rc_some, N.v_eq, N.v_ne, N.v_lt, N.v_le, N.v_gt, N.v_ge, N.v_add, N.v_sub, N.v_iadd, N.v_xor, N.v_int, N.tru_b, N.pd_d, N.data_nil, N.data_cons, N.len_t, N.v_tupT, N.g_name, N.isNone_n, N.isNone_t, N.isNone_i, N.v_isN, N.v_isNn, N.v_eqB, N.v_neB, List.set_cons_succ, List.set_cons_zero, List.getElem?_cons_succ, List.getElem?_cons_zero, Bool.not_true, Bool.not_false, Bool.false_eq_true, Bool.true_eq_false, eq_self, true_implies, false_implies, true_and, and_true, decide_true, decide_false, Int.zero_add, N.R_sl, N.R_it, R_oNone, R_oSome, wipeN, N.R_lst, N.R_mkF, N.R_mkT, N.R_meth, N.v_addT, Ri_rng1, Ri_rng2, Ri_seq, g0]
        refine v_rem h2 ?_
        rw [N.set_last, aft_nx, trimE_len (by simp)]
        refine ⟨M.erase i, none, o2, none, none, good h2 h3 h4, l.step h2 h3 h4, ?_, rfl, by simp [wipeN]⟩
        have := List.length_erase_of_mem h2
        omega
      · rw [aft_rt]
        exact retn (bad2 fun hc => by simp [hc.2.1] at h3)
      · rw [aft_rt]
        exact retn (bad2 fun hc => by simp [hc.1] at h2)
  · obtain ⟨M, o1, o2, o3, o4, h1, l, hml, rfl, rfl⟩ := hq
    rw [List.take_length] at h1
    rw [N.thn_nx, Rs_seq, Rs_ret]
    simp only [Rs_nil, R_call, R_cons, R_nil, R_Var, R_C, R_bin, R_cmp, R_tcmp, R_tOr, R_tAnd, R_tNot, R_tVal, R_tTrue, R_ite, R_eAnd, R_eOr, R_eNot, R_neg, R_tup, R_isi, R_some, Rc_some, N.v_eq, N.v_ne, N.v_lt, N.v_le, N.v_gt, N.v_ge, N.v_add, N.v_sub, N.v_iadd, N.v_xor, N.v_int, N.tru_b, N.pd_d, N.data_nil, N.data_cons, N.len_t, N.v_tupT, N.g_name, N.isNone_n, N.isNone_t, N.isNone_i, N.v_isN, N.v_isNn, N.v_eqB, N.v_neB, List.set_cons_succ, List.set_cons_zero, List.getElem?_cons_succ, List.getElem?_cons_zero, Bool.not_true, Bool.not_false, Bool.false_eq_true, Bool.true_eq_false, eq_self, true_implies, false_implies, true_and, and_true, decide_true, decide_false, Int.zero_add, N.R_sl, N.R_it, R_oNone, R_oSome, wipeN, N.R_lst, N.R_mkF, N.R_mkT, N.R_meth, N.v_addT, Ri_rng1, Ri_rng2, Ri_seq]
    rw [N.thn_rt]
    unfold N.ret
    simp only [Nat.lt_irrefl, if_neg Bool.false_ne_true, if_false, List.getElem?_append_right (Nat.le_refl s.length), Nat.sub_self, List.getElem?_cons_zero, data_map, R_some]
    unfold lbV lbD
    simp only [h1]
    refine ⟨trivial, ?_⟩
    rw [N.set_last]
    simp [trim, N.safe_app]
/-- is_apart, is_stuck -/
def apB (n : Nat) (es : List (Nat × Nat)) (x : PyData) : Bool := match lbD n es x with
  | some L => decide (L.length = 1)
  | none => false
def skB (n : Nat) (es : List (Nat × Nat)) (x : PyData) : Bool := match lbD n es x with
  | some L => decide (1 < L.length) && decide (csP n es L = [])
  | none => false
theorem leftX_len : ∀ {xs : List PyData} {L M : List Nat}, leftX n es xs L = some M → M.length ≤ L.length
  | [], L, M, e => by cases e; exact Nat.le_refl _
  | x :: xs, L, M, e => by
    unfold leftX at e
    split at e
    · rename_i p _
      split at e
      · rename_i hc
        have := leftX_len e
        rw [List.length_erase_of_mem hc.1] at this
        omega
      · cases e
    · cases e
theorem lbD_len {x : PyData} (e : lbD n es x = some L) : L.length ≤ n := by
  cases x with
  | tuple xs =>
    have := leftX_len e
    rwa [List.length_range] at this
  | _ => cases e
theorem apart_ok (G : Pkr n es) (h0 : 0 < n) (hn : n ≤ 100) (he : es.length ≤ 10000) (x : PyData) : m_is_apart s [.d (parD n es), .d x] = some (.d (.bool (apB n es x)), s) := by
  apply R.eq
  unfold m_is_apart b_is_apart
  simp only [R_fn]
  refine ⟨rfl, ?_⟩
  simp only [N.thn_nx, N.thn_rt, Rs_seq, Rs_set, Rs_ret, Rs_expr, Rs_nil, Rs_if, Rs_asg, Rs_aug, R_call, R_cons, R_nil, R_Var, R_C, R_bin, R_cmp, R_tcmp, R_tOr, R_tAnd, R_tNot, R_tVal, R_tTrue, R_ite, R_eAnd, R_eOr, R_eNot, R_neg, R_tup, R_isi, R_some, Rc_some, N.v_eq, N.v_ne, N.v_lt, N.v_le, N.v_gt, N.v_ge, N.v_add, N.v_sub, N.v_iadd, N.v_xor, N.v_int, N.tru_b, N.pd_d, N.data_nil, N.data_cons, N.len_t, N.v_tupT, N.g_name, N.isNone_n, N.isNone_t, N.isNone_i, N.v_isN, N.v_isNn, N.v_eqB, N.v_neB, List.set_cons_succ, List.set_cons_zero, List.getElem?_cons_succ, List.getElem?_cons_zero, Bool.not_true, Bool.not_false, Bool.false_eq_true, Bool.true_eq_false, eq_self, true_implies, false_implies, true_and, and_true, decide_true, decide_false, Int.zero_add, N.R_sl, N.R_it, R_oNone, R_oSome, wipeN, N.R_lst, N.R_mkF, N.R_mkT, N.R_meth, N.v_addT, Ri_rng1, Ri_rng2, Ri_seq, List.map_cons, List.map_nil, List.cons_append, List.nil_append, List.length_cons, List.length_nil, List.replicate, Nat.reduceSub, Nat.reduceAdd, left_okP G h0 hn he]
  unfold lbV apB
  rcases h : lbD n es x with _ | L
  · simp [R_retd]
  · simp [len_l, R_retd, nt]
    omega
theorem stuck_ok (G : Pkr n es) (h0 : 0 < n) (hn : n ≤ 100) (he : es.length ≤ 10000) (x : PyData) : m_is_stuck s [.d (parD n es), .d x] = some (.d (.bool (skB n es x)), s) := by
  apply R.eq
  unfold m_is_stuck b_is_stuck
  simp only [R_fn]
  refine ⟨rfl, ?_⟩
  simp only [N.thn_nx, N.thn_rt, Rs_seq, Rs_set, Rs_ret, Rs_expr, Rs_nil, Rs_if, Rs_asg, Rs_aug, R_call, R_cons, R_nil, R_Var, R_C, R_bin, R_cmp, R_tcmp, R_tOr, R_tAnd, R_tNot, R_tVal, R_tTrue, R_ite, R_eAnd, R_eOr, R_eNot, R_neg, R_tup, R_isi, R_some, Rc_some, N.v_eq, N.v_ne, N.v_lt, N.v_le, N.v_gt, N.v_ge, N.v_add, N.v_sub, N.v_iadd, N.v_xor, N.v_int, N.tru_b, N.pd_d, N.data_nil, N.data_cons, N.len_t, N.v_tupT, N.g_name, N.isNone_n, N.isNone_t, N.isNone_i, N.v_isN, N.v_isNn, N.v_eqB, N.v_neB, List.set_cons_succ, List.set_cons_zero, List.getElem?_cons_succ, List.getElem?_cons_zero, Bool.not_true, Bool.not_false, Bool.false_eq_true, Bool.true_eq_false, eq_self, true_implies, false_implies, true_and, and_true, decide_true, decide_false, Int.zero_add, N.R_sl, N.R_it, R_oNone, R_oSome, wipeN, N.R_lst, N.R_mkF, N.R_mkT, N.R_meth, N.v_addT, Ri_rng1, Ri_rng2, Ri_seq, List.map_cons, List.map_nil, List.cons_append, List.nil_append, List.length_cons, List.length_nil, List.replicate, Nat.reduceSub, Nat.reduceAdd, left_okP G h0 hn he]
  unfold lbV skB
  rcases h : lbD n es x with _ | L
  · simp [R_retd]
  · have l := lbD_ok h0 h
    have ll : LL s (.d (.list (nt L))) (nt L) := .inr (.inl rfl)
    simp only [N.isNone_l, Bool.not_false, Rc_some, tru_b, true_implies, Bool.true_eq_false, false_implies, and_true, len_l, R_some, corners_ok G ll l.lt (lbD_len h) hn he, tru_t, R_retd, trim_self, N.v_gt]
    have e1 : ((nt L).length : Int) = (L.length : Nat) := by simp [nt]
    rw [e1]
    refine ⟨fun hb => ?_, fun hb => ?_⟩
    · have hb : 1 < L.length := by simp at hb; omega
      rw [decide_eq_true hb, Bool.true_and]
      cases h : csP n es L <;> simp
    · have hb : ¬ 1 < L.length := by simp at hb; omega
      simp [hb]
      omega
end
end N

namespace N
open PySem L2 PyProof.Rows

theorem mx2P (a b : Nat) : mx2 (a : Int) (b : Int) = ((max a b : Nat) : Int) := by
  unfold mx2
  split <;> omega
theorem mn2P (a b : Nat) : mn2 (a : Int) (b : Int) = ((min a b : Nat) : Int) := by
  unfold mn2
  split <;> omega
theorem pk_prs (es : List (Nat × Nat)) : pks (es.map prP) = true := pks_iff.mpr fun x hx => by
  obtain ⟨e, _, rfl⟩ := List.mem_map.mp hx
  rfl
theorem prP_inj {p q : Nat × Nat} (h : prP p = prP q) : p = q := by
  obtain ⟨a, b⟩ := p
  obtain ⟨c, d⟩ := q
  simp only [prP, PyData.tuple.injEq, List.cons.injEq, PyData.int.injEq, and_true] at h
  rw [Prod.mk.injEq]
  omega
theorem mem_prs {p : Nat × Nat} {es : List (Nat × Nat)} : prP p ∈ es.map prP ↔ p ∈ es := by
  rw [List.mem_map]
  exact ⟨fun ⟨q, h, e⟩ => prP_inj e ▸ h, fun h => ⟨p, h, rfl⟩⟩
theorem in_prs {neg : Bool} {s : Sto} {d : D} {es : List (Nat × Nat)} (l : LL s d (es.map prP)) (p : Nat × Nat) : cIn neg s (.d (prP p)) d = some (if neg then !decide (p ∈ es) else decide (p ∈ es)) := by
  rw [in_LL l (pk_prs es) rfl (by simp [PyData.depth, PyData.depthAll]; omega)]
  simp only [mem_prs]
theorem adj_law {n : Nat} {es : List (Nat × Nat)} (G : Pkr n es) (u v : Nat) : (decide (v = u) || decide ((min u v, max u v) ∈ es)) = adjP es u v := by
  unfold adjP
  by_cases h : u = v
  · subst h; simp
  · have h' : ¬ v = u := fun e => h e.symm
    rw [decide_eq_false h, decide_eq_false h', Bool.false_or, Bool.false_or]
    rw [Bool.eq_iff_iff, Bool.or_eq_true, decide_eq_true_eq, decide_eq_true_eq, decide_eq_true_eq]
    rcases Nat.lt_or_ge u v with h1 | h1
    · rw [Nat.min_eq_left (by omega), Nat.max_eq_right (by omega)]
      refine ⟨.inl, fun h2 => h2.elim id fun h2 => ?_⟩
      have := G.lt _ h2
      simp only [] at this
      omega
    · rw [Nat.min_eq_right (by omega), Nat.max_eq_left (by omega)]
      refine ⟨.inr, fun h2 => h2.elim (fun h2 => ?_) id⟩
      have := G.lt _ h2
      simp only [] at this
      omega
abbrev rwL (n : Nat) (es : List (Nat × Nat)) : PyData := .list ((rwP n es).map fun r => .list (nt r))
section
variable {n : Nat} {es : List (Nat × Nat)} {L : List Nat} {s : Sto}
theorem rngI (h : n ≤ 10000) {e : Lo} {s : Sto} {m : ME} (hm : m e s = some (.d (.int (n : Nat)), s)) : Ri (iRng1 (aCons m aNil) e s) fun items ck s1 => items = (List.range n).map (fun k => D.d (.int (k : Nat))) ∧ CkA ck s ∧ s1 = s := by
  rw [Ri_rng1]
  simp only [R_cons, R_nil, hm, R_some]
  exact ⟨⟨by omega, by omega⟩, rngN rfl, CkA.none _, by trivial⟩
theorem fst_par {s : Sto} : itF s (.d (parD n es)) (.d (.int 0)) = some (.d (.int (n : Nat))) := it_1 rfl
theorem snd_par {s : Sto} : itF s (.d (parD n es)) (.d (.int 1)) = some (.d (.tuple (es.map prP))) := it_2 rfl
theorem m_of {m : ME} {e : Lo} {s : Sto} {d : D} (h : R (m e s) fun y s1 => y = d ∧ s1 = s) : m e s = some (d, s) := R.eq h
theorem lawnear_ok (G : Pkr n es) (hn : n ≤ 100) : m__law_near s [.d (parD n es)] = some (.d (rwL n es), s) := by
  apply R.eq
  unfold m__law_near b__law_near
  simp only [R_fn]
  refine ⟨rfl, ?_⟩
  simp only [List.map_cons, List.map_nil, List.cons_append, List.nil_append, List.length_cons, List.length_nil, List.replicate, Nat.reduceSub, Nat.reduceAdd]
  rw [Rs_seq, Rs_ret]
  refine R_lcmG (List.range n) (fun k => .d (.int (k : Nat))) (fun k => .list (nt (nbP n es k))) (rngI (by omega) (m_of ?_)) (fun u hu acc => ?_) (by simp [lim]; omega) ?_
  · simp only [Rs_nil, R_call, R_cons, R_nil, R_Var, R_C, R_bin, R_cmp, R_tcmp, R_tOr, R_tAnd, R_tNot, R_tVal, R_tTrue, R_ite, R_eAnd, R_eOr, R_eNot, R_neg, R_tup, R_isi, R_some, Rc_some, N.v_eq, N.v_ne, N.v_lt, N.v_le, N.v_gt, N.v_ge, N.v_add, N.v_sub, N.v_iadd, N.v_xor, N.v_int, N.tru_b, N.pd_d, N.data_nil, N.data_cons, N.len_t, N.v_tupT, N.g_name, N.isNone_n, N.isNone_t, N.isNone_i, N.v_isN, N.v_isNn, N.v_eqB, N.v_neB, List.set_cons_succ, List.set_cons_zero, List.getElem?_cons_succ, List.getElem?_cons_zero, Bool.not_true, Bool.not_false, Bool.false_eq_true, Bool.true_eq_false, eq_self, true_implies, false_implies, true_and, and_true, decide_true, decide_false, Int.zero_add, N.R_sl, N.R_it, R_oNone, R_oSome, wipeN, N.R_lst, N.R_mkF, N.R_mkT, N.R_meth, N.v_addT, Ri_rng1, Ri_rng2, Ri_seq, fst_par]
  · rw [g_name, Rc_some]
    refine R_lcG (List.range n) (fun k => .d (.int (k : Nat))) (fun k => .int (k : Nat)) (fun v => adjP es u v) (rngI (by omega) (m_of ?_)) (fun v hv acc2 => ?_) (by simp [lim]; omega) ?_
    · simp only [Rs_nil, R_call, R_cons, R_nil, R_Var, R_C, R_bin, R_cmp, R_tcmp, R_tOr, R_tAnd, R_tNot, R_tVal, R_tTrue, R_ite, R_eAnd, R_eOr, R_eNot, R_neg, R_tup, R_isi, R_some, Rc_some, N.v_eq, N.v_ne, N.v_lt, N.v_le, N.v_gt, N.v_ge, N.v_add, N.v_sub, N.v_iadd, N.v_xor, N.v_int, N.tru_b, N.pd_d, N.data_nil, N.data_cons, N.len_t, N.v_tupT, N.g_name, N.isNone_n, N.isNone_t, N.isNone_i, N.v_isN, N.v_isNn, N.v_eqB, N.v_neB, List.set_cons_succ, List.set_cons_zero, List.getElem?_cons_succ, List.getElem?_cons_zero, Bool.not_true, Bool.not_false, Bool.false_eq_true, Bool.true_eq_false, eq_self, true_implies, false_implies, true_and, and_true, decide_true, decide_false, Int.zero_add, N.R_sl, N.R_it, R_oNone, R_oSome, wipeN, N.R_lst, N.R_mkF, N.R_mkT, N.R_meth, N.v_addT, Ri_rng1, Ri_rng2, Ri_seq, fst_par]
    · simp only [Rs_nil, R_call, R_cons, R_nil, R_Var, R_C, R_bin, R_cmp, R_tcmp, R_tOr, R_tAnd, R_tNot, R_tVal, R_tTrue, R_ite, R_eAnd, R_eOr, R_eNot, R_neg, R_tup, R_isi, R_some, Rc_some, N.v_eq, N.v_ne, N.v_lt, N.v_le, N.v_gt, N.v_ge, N.v_add, N.v_sub, N.v_iadd, N.v_xor, N.v_int, N.tru_b, N.pd_d, N.data_nil, N.data_cons, N.len_t, N.v_tupT, N.g_name, N.isNone_n, N.isNone_t, N.isNone_i, N.v_isN, N.v_isNn, N.v_eqB, N.v_neB, List.set_cons_succ, List.set_cons_zero, List.getElem?_cons_succ, List.getElem?_cons_zero, Bool.not_true, Bool.not_false, Bool.false_eq_true, Bool.true_eq_false, eq_self, true_implies, false_implies, true_and, and_true, decide_true, decide_false, Int.zero_add, N.R_sl, N.R_it, R_oNone, R_oSome, wipeN, N.R_lst, N.R_mkF, N.R_mkT, N.R_meth, N.v_addT, Ri_rng1, Ri_rng2, Ri_seq, v_min2, v_max2, mn2P, mx2P, snd_par]
      rw [show PyData.tuple [PyData.int ((min u v : Nat) : Int), PyData.int ((max u v : Nat) : Int)] = prP (min u v, max u v) from rfl, in_prs (.inl rfl), Rc_some]
      have := adj_law G u v
      refine ⟨fun h => ⟨by simp [lim], ?_⟩, fun h => ?_⟩
      · have h : ¬ v = u := by simp at h; omega
        rw [← this, decide_eq_false h]
        simp
      · have h : v = u := by simp at h; omega
        rw [← this, decide_eq_true h]
        simp
    · exact ⟨rfl, rfl⟩
  · simp only [N.thn_rt, R_retd, trim_self]
    refine ⟨?_, trivial⟩
    unfold rwL rwP
    rw [List.map_map]
    rfl
theorem rowL_at {v : Nat} (h : v < n) : itF s (.d (rwL n es)) (.d (.int (v : Nat))) = some (.d (.list (nt (nbP n es v)))) := itF_tl (atI_nat (by rw [List.getElem?_map, rw_at h]; rfl))
theorem lawcorner_ok {d : D} (l : LL s d (nt L)) {u v : Nat} (hu : u < n) (hv : v < n) (hn : n ≤ 100) : m__law_is_corner s [.d (rwL n es), d, .d (.int (u : Nat)), .d (.int (v : Nat))] = some (.d (.bool (crnL n es L u v)), s) := by
  apply R.eq
  unfold m__law_is_corner b__law_is_corner
  simp only [R_fn]
  refine ⟨rfl, ?_⟩
  simp only [N.thn_nx, N.thn_rt, Rs_seq, Rs_set, Rs_ret, Rs_expr, Rs_nil, Rs_if, Rs_asg, Rs_aug, R_call, R_cons, R_nil, R_Var, R_C, R_bin, R_cmp, R_tcmp, R_tOr, R_tAnd, R_tNot, R_tVal, R_tTrue, R_ite, R_eAnd, R_eOr, R_eNot, R_neg, R_tup, R_isi, R_some, Rc_some, N.v_eq, N.v_ne, N.v_lt, N.v_le, N.v_gt, N.v_ge, N.v_add, N.v_sub, N.v_iadd, N.v_xor, N.v_int, N.tru_b, N.pd_d, N.data_nil, N.data_cons, N.len_t, N.v_tupT, N.g_name, N.isNone_n, N.isNone_t, N.isNone_i, N.v_isN, N.v_isNn, N.v_eqB, N.v_neB, List.set_cons_succ, List.set_cons_zero, List.getElem?_cons_succ, List.getElem?_cons_zero, Bool.not_true, Bool.not_false, Bool.false_eq_true, Bool.true_eq_false, eq_self, true_implies, false_implies, true_and, and_true, decide_true, decide_false, Int.zero_add, N.R_sl, N.R_it, R_oNone, R_oSome, wipeN, N.R_lst, N.R_mkF, N.R_mkT, N.R_meth, N.v_addT, Ri_rng1, Ri_rng2, Ri_seq, List.map_cons, List.map_nil, List.cons_append, List.nil_append, List.length_cons, List.length_nil, List.replicate, Nat.reduceSub, Nat.reduceAdd, rowL_at hu, rowL_at hv]
  unfold crnL
  refine ⟨fun h1 => ?_, fun h1 => ?_⟩
  · have h1 : ¬ u = v := by simp at h1; omega
    refine R_lcG (nbP n es u) (fun t => .d (.int (t : Nat))) (fun t => .bool (decide (t ∈ nbP n es v))) (fun t => decide (t ∈ L)) (Ri_LLn (m_of ?_) (.inr (.inl rfl))) (fun t ht acc => ?_) (by have := nb_len n es u; simp only [lim]; omega) ?_
    · simp only [Rs_nil, R_call, R_cons, R_nil, R_Var, R_C, R_bin, R_cmp, R_tcmp, R_tOr, R_tAnd, R_tNot, R_tVal, R_tTrue, R_ite, R_eAnd, R_eOr, R_eNot, R_neg, R_tup, R_isi, R_some, Rc_some, N.v_eq, N.v_ne, N.v_lt, N.v_le, N.v_gt, N.v_ge, N.v_add, N.v_sub, N.v_iadd, N.v_xor, N.v_int, N.tru_b, N.pd_d, N.data_nil, N.data_cons, N.len_t, N.v_tupT, N.g_name, N.isNone_n, N.isNone_t, N.isNone_i, N.v_isN, N.v_isNn, N.v_eqB, N.v_neB, List.set_cons_succ, List.set_cons_zero, List.getElem?_cons_succ, List.getElem?_cons_zero, Bool.not_true, Bool.not_false, Bool.false_eq_true, Bool.true_eq_false, eq_self, true_implies, false_implies, true_and, and_true, decide_true, decide_false, Int.zero_add, N.R_sl, N.R_it, R_oNone, R_oSome, wipeN, N.R_lst, N.R_mkF, N.R_mkT, N.R_meth, N.v_addT, Ri_rng1, Ri_rng2, Ri_seq, rowL_at hu]
    · simp only [Rs_nil, R_call, R_cons, R_nil, R_Var, R_C, R_bin, R_cmp, R_tcmp, R_tOr, R_tAnd, R_tNot, R_tVal, R_tTrue, R_ite, R_eAnd, R_eOr, R_eNot, R_neg, R_tup, R_isi, R_some, Rc_some, N.v_eq, N.v_ne, N.v_lt, N.v_le, N.v_gt, N.v_ge, N.v_add, N.v_sub, N.v_iadd, N.v_xor, N.v_int, N.tru_b, N.pd_d, N.data_nil, N.data_cons, N.len_t, N.v_tupT, N.g_name, N.isNone_n, N.isNone_t, N.isNone_i, N.v_isN, N.v_isNn, N.v_eqB, N.v_neB, List.set_cons_succ, List.set_cons_zero, List.getElem?_cons_succ, List.getElem?_cons_zero, Bool.not_true, Bool.not_false, Bool.false_eq_true, Bool.true_eq_false, eq_self, true_implies, false_implies, true_and, and_true, decide_true, decide_false, Int.zero_add, N.R_sl, N.R_it, R_oNone, R_oSome, wipeN, N.R_lst, N.R_mkF, N.R_mkT, N.R_meth, N.v_addT, Ri_rng1, Ri_rng2, Ri_seq, in_LLn (l.app [.lst acc]), rowL_at hv, in_LLn (L := nbP n es v) (.inr (.inl rfl)), if_neg Bool.false_ne_true]
      simp
    · rw [all_map, R_some]
      simp [R_retd, h1]
  · have h1 : u = v := by simp at h1; omega
    simp [R_retd, h1]
theorem flatMap_le {α β : Type} (f : α → List β) (c : Nat) : ∀ l : List α, (∀ x ∈ l, (f x).length ≤ c) → (l.flatMap f).length ≤ l.length * c
  | [], _ => by simp
  | x :: l, h => by
    have h1 := h x List.mem_cons_self
    have h2 := flatMap_le f c l fun y hy => h y (List.mem_cons_of_mem _ hy)
    rw [List.flatMap_cons, List.length_append, List.length_cons, Nat.add_mul]
    omega
theorem cs_len (n : Nat) (es : List (Nat × Nat)) (L : List Nat) : (csP n es L).length ≤ L.length * L.length := flatMap_le _ _ L fun u _ => by
  rw [List.length_map]
  exact List.length_filter_le _ _
theorem lawcorners_ok {d : D} (l : LL s d (nt L)) (hL : ∀ x ∈ L, x < n) (hl : L.length ≤ n) (hn : n ≤ 100) : m__law_corners s [.d (rwL n es), d] = some (.d (.list ((csP n es L).map prP)), s) := by
  apply R.eq
  unfold m__law_corners b__law_corners
  simp only [R_fn]
  refine ⟨rfl, ?_⟩
  simp only [List.map_cons, List.map_nil, List.cons_append, List.nil_append, List.length_cons, List.length_nil, List.replicate, Nat.reduceSub, Nat.reduceAdd]
  rw [Rs_seq, Rs_ret, R_call, R_cons]
  refine R_lcmG L (fun k => .d (.int (k : Nat))) (fun u => .list ((L.filter (crnB n es L u)).map fun v => prP (u, v))) (Ri_LLn rfl l) (fun u hu acc => ?_) (by simp only [lim]; omega) ?_
  · rw [g_name, Rc_some]
    refine R_lcG L (fun k => .d (.int (k : Nat))) (fun v => prP (u, v)) (crnB n es L u) (Ri_LLn rfl (l.app [.lst acc])) (fun v hv acc2 => ?_) (by simp only [lim]; omega) ?_
    · simp only [Rs_nil, R_call, R_cons, R_nil, R_Var, R_C, R_bin, R_cmp, R_tcmp, R_tOr, R_tAnd, R_tNot, R_tVal, R_tTrue, R_ite, R_eAnd, R_eOr, R_eNot, R_neg, R_tup, R_isi, R_some, Rc_some, N.v_eq, N.v_ne, N.v_lt, N.v_le, N.v_gt, N.v_ge, N.v_add, N.v_sub, N.v_iadd, N.v_xor, N.v_int, N.tru_b, N.pd_d, N.data_nil, N.data_cons, N.len_t, N.v_tupT, N.g_name, N.isNone_n, N.isNone_t, N.isNone_i, N.v_isN, N.v_isNn, N.v_eqB, N.v_neB, List.set_cons_succ, List.set_cons_zero, List.getElem?_cons_succ, List.getElem?_cons_zero, Bool.not_true, Bool.not_false, Bool.false_eq_true, Bool.true_eq_false, eq_self, true_implies, false_implies, true_and, and_true, decide_true, decide_false, Int.zero_add, N.R_sl, N.R_it, R_oNone, R_oSome, wipeN, N.R_lst, N.R_mkF, N.R_mkT, N.R_meth, N.v_addT, Ri_rng1, Ri_rng2, Ri_seq, lawcorner_ok ((l.app [.lst acc]).app [.lst acc2]) (hL u hu) (hL v hv) hn]
      refine ⟨crnL_eq hL hu (hL v hv), fun _ => ?_⟩
      simp [lim]
    · exact ⟨rfl, rfl⟩
  · have e1 : (L.map fun u => PyData.list ((L.filter (crnB n es L u)).map fun v => prP (u, v))) = (L.map fun u => (L.filter (crnB n es L u)).map fun v => prP (u, v)).map .list := by
      rw [List.map_map]
      rfl
    have e2 : (L.map fun u => (L.filter (crnB n es L u)).map fun v => prP (u, v)).flatten = (csP n es L).map prP := by
      unfold csP
      rw [List.map_flatMap, List.flatMap_def]
      simp only [List.map_map]
      rfl
    have e3 : ((csP n es L).map prP).length ≤ 10000 := by
      rw [List.length_map]
      exact Nat.le_trans (cs_len n es L) (Nat.mul_le_mul (by omega : L.length ≤ 100) (by omega : L.length ≤ 100))
    rw [R_nil, e1, flat_okP (by rw [e2]; omega), e2, R_some]
    simp only [N.thn_rt, R_retd, trim_self]
    exact ⟨trivial, trivial⟩
def unD : PyData → Nat × Nat
  | .tuple [.int i, .int j] => (i.toNat, j.toNat)
  | _ => (0, 0)
theorem unD_pr (e : Nat × Nat) : unD (prP e) = e := by
  obtain ⟨a, b⟩ := e
  simp [unD, prP]
theorem srt_prs (L : List (Nat × Nat)) : ∃ E : List (Nat × Nat), E.Perm L ∧ Z.srt (L.map prP) = E.map prP := by
  refine ⟨(Z.srt (L.map prP)).map unD, ?_, ?_⟩
  · have h := (Z.srt_perm (L.map prP)).map unD
    rw [List.map_map] at h
    have e : L.map (unD ∘ prP) = L := by
      rw [show (unD ∘ prP) = id from funext unD_pr, List.map_id]
    rwa [e] at h
  · rw [List.map_map]
    symm
    have h : ∀ x ∈ Z.srt (L.map prP), (prP ∘ unD) x = x := fun x hx => by
      obtain ⟨e, _, rfl⟩ := List.mem_map.mp ((Z.srt_perm (L.map prP)).mem_iff.mp hx)
      show prP (unD (prP e)) = prP e
      rw [unD_pr]
    rw [List.map_congr_left h, List.map_id']
theorem R_srtPr {es : List (Nat × Nat)} {d : D} (l : LL s d (es.map prP)) (h : d ≠ .d (.tuple (es.map prP))) {Q : D → Sto → Prop} (q : ∀ E : List (Nat × Nat), E.Perm es → Q (.d (.list (E.map prP))) s) : R (bSorted false s [d]) Q := by
  obtain ⟨E, h1, h2⟩ := srt_prs es
  have e0 : es.map prP = (es.map fun e => [e.1, e.2]).map tup := by
    rw [List.map_map]
    rfl
  have e1 : asL s d = some ((es.map prP).map .d) := by
    rcases l with rfl | rfl | ⟨j, rfl, hj⟩
    · exact (h rfl).elim
    · rfl
    · unfold asL
      simp only [hj]
  unfold bSorted
  simp only [e1, data_map, if_pos (show SrtOk (es.map prP) from e0 ▸ srtOk_tup _), R_mkF, Rc_some, h2]
  exact q E h1
end
end N

namespace N
open PySem L2 PyProof.Rows

theorem Pkr.len {n : Nat} {es : List (Nat × Nat)} (G : Pkr n es) : es.length ≤ n * n := by
  have h : ∀ e ∈ es, e ∈ (List.range n).flatMap fun u => (List.range n).map fun v => (u, v) := fun e he => by
    have h1 := G.lt e he
    have h2 := G.le e he
    exact List.mem_flatMap.mpr ⟨e.1, List.mem_range.mpr (by omega), List.mem_map.mpr ⟨e.2, List.mem_range.mpr h2, rfl⟩⟩
  refine Nat.le_trans (Z.nd_sub G.nd h) ?_
  have := flatMap_le (fun u => (List.range n).map fun v => (u, v)) n (List.range n) fun u _ => by simp
  rwa [List.length_range] at this
theorem Pkr.perm {n : Nat} {es E : List (Nat × Nat)} (G : Pkr n es) (h : E.Perm es) : Pkr n E := ⟨h.nodup_iff.mpr G.nd, fun e he => G.lt e (h.mem_iff.mp he), fun e he => G.le e (h.mem_iff.mp he)⟩
theorem Pkr.add {n u v : Nat} {es : List (Nat × Nat)} (G : Pkr n es) (h1 : u < v) (h2 : v < n) (h3 : (u, v) ∉ es) : Pkr n (es ++ [(u, v)]) := by
  refine ⟨?_, fun e he => ?_, fun e he => ?_⟩
  · rw [List.nodup_append]
    exact ⟨G.nd, by simp, fun a ha b hb e => by rw [List.mem_singleton] at hb; subst hb; subst e; exact h3 ha⟩
  · rcases List.mem_append.mp he with he | he
    · exact G.lt e he
    · rw [List.mem_singleton.mp he]; exact h1
  · rcases List.mem_append.mp he with he | he
    · exact G.le e he
    · rw [List.mem_singleton.mp he]; exact h2
def cP (es : List (Nat × Nat)) : Cell := .lst ((es.map prP).map .d)
theorem BS.at {rest s : Sto} {c : Cell} (t : BS (rest ++ [c]) s) : s[rest.length + 2]? = some c := by
  rw [t.get]
  simp
theorem BS.set {rest s : Sto} {c : Cell} (t : BS (rest ++ [c]) s) (c' : Cell) : BS (rest ++ [c']) (s.set (rest.length + 2) c') := by
  have := t.put rest.length c'
  rw [List.set_append_right _ _ (Nat.le_refl _), Nat.sub_self] at this
  exact this
theorem BS.set_len {rest s : Sto} {c : Cell} (t : BS (rest ++ [c]) s) : s.length = rest.length + 3 := by
  rw [t.len]
  simp
  omega
theorem Ri.keep {o : Option (List D × Option (Nat × List D) × Sto)} {l : List D} {s : Sto} {P : Sto → Prop} (h : Ri o fun items ck s1 => items = l ∧ ck = none ∧ s1 = s) (p : P s) : Ri o fun items ck s1 => items = l ∧ ck = none ∧ P s1 := by
  obtain ⟨_, _, _, h1, rfl, rfl, rfl⟩ := h
  exact ⟨_, _, _, h1, rfl, rfl, p⟩
theorem rngI1 {n : Nat} (h : n ≤ 10000) {e : Lo} {s : Sto} {m : ME} (hm : m e s = some (.d (.int (n : Nat)), s)) : Ri (iRng1 (aCons m aNil) e s) fun items ck s1 => items = (List.range n).map (fun k => D.d (.int (k : Nat))) ∧ ck = none ∧ s1 = s := by
  rw [Ri_rng1]
  simp only [R_cons, R_nil, hm, R_some]
  exact ⟨⟨by omega, by omega⟩, rngN rfl, by trivial, by trivial⟩
theorem rngI2 {a n : Nat} (h : n ≤ 10000) (h' : a ≤ 10000) {e : Lo} {s : Sto} {m m0 : ME} (h0 : m0 e s = some (.d (.int (a : Nat)), s)) (hm : m e s = some (.d (.int (n : Nat)), s)) : Ri (iRng2 (aCons m0 (aCons m aNil)) e s) fun items ck s1 => items = (List.range (n - a)).map (fun k => D.d (.int ((a + k : Nat) : Int))) ∧ ck = none ∧ s1 = s := by
  rw [Ri_rng2]
  simp only [R_cons, R_nil, h0, hm, R_some]
  refine ⟨⟨by omega, by omega, by omega, by omega⟩, ?_, by trivial, by trivial⟩
  unfold rngD
  rw [show (((n : Nat) : Int) - (a : Nat)).toNat = n - a by omega]
  refine List.map_congr_left fun k _ => ?_
  congr 2
section
variable {rest s : Sto}
theorem R_park {most : Nat} (t : BS rest s) (f : Flat rest) (h0 : 0 < most) (h12 : most ≤ 12) {Q : D → Sto → Prop} (q : ∀ n es s', 0 < n → n ≤ most → Pkr n es → BS rest s' → Q (.d (parD n es)) s') : R (m__law_park s [.r 1, .d (.int (most : Nat))]) Q := by
  unfold m__law_park b__law_park
  rw [R_fn]
  refine ⟨rfl, ?_⟩
  simp only [List.map_cons, List.map_nil, List.cons_append, List.nil_append, List.length_cons, List.length_nil, Nat.reduceSub, Nat.reduceAdd, List.replicate_succ, List.replicate_zero]
  rw [Rs_seq, Rs_par]
  simp only [Rs_nil, R_call, R_cons, R_nil, R_Var, R_C, R_bin, R_cmp, R_tcmp, R_tOr, R_tAnd, R_tNot, R_tVal, R_tTrue, R_ite, R_eAnd, R_eOr, R_eNot, R_neg, R_tup, R_isi, R_some, Rc_some, N.v_eq, N.v_ne, N.v_lt, N.v_le, N.v_gt, N.v_ge, N.v_add, N.v_sub, N.v_iadd, N.v_xor, N.v_int, N.tru_b, N.pd_d, N.data_nil, N.data_cons, N.len_t, N.v_tupT, N.g_name, N.isNone_n, N.isNone_t, N.isNone_i, N.v_isN, N.v_isNn, N.v_eqB, N.v_neB, List.set_cons_succ, List.set_cons_zero, List.getElem?_cons_succ, List.getElem?_cons_zero, Bool.not_true, Bool.not_false, Bool.false_eq_true, Bool.true_eq_false, eq_self, true_implies, false_implies, true_and, and_true, decide_true, decide_false, Int.zero_add, N.R_sl, N.R_it, R_oNone, R_oSome, wipeN, N.R_lst, N.R_mkF, N.R_mkT, N.R_meth, N.v_addT, Ri_rng1, Ri_rng2, Ri_seq]
  refine R_draw t (m := most) h0 (Nat.lt_of_le_of_lt h12 (by decide)) fun d s1 hd t1 => ?_
  simp only [Rs_nil, R_call, R_cons, R_nil, R_Var, R_C, R_bin, R_cmp, R_tcmp, R_tOr, R_tAnd, R_tNot, R_tVal, R_tTrue, R_ite, R_eAnd, R_eOr, R_eNot, R_neg, R_tup, R_isi, R_some, Rc_some, N.v_eq, N.v_ne, N.v_lt, N.v_le, N.v_gt, N.v_ge, N.v_add, N.v_sub, N.v_iadd, N.v_xor, N.v_int, N.tru_b, N.pd_d, N.data_nil, N.data_cons, N.len_t, N.v_tupT, N.g_name, N.isNone_n, N.isNone_t, N.isNone_i, N.v_isN, N.v_isNn, N.v_eqB, N.v_neB, List.set_cons_succ, List.set_cons_zero, List.getElem?_cons_succ, List.getElem?_cons_zero, Bool.not_true, Bool.not_false, Bool.false_eq_true, Bool.true_eq_false, eq_self, true_implies, false_implies, true_and, and_true, decide_true, decide_false, Int.zero_add, N.R_sl, N.R_it, R_oNone, R_oSome, wipeN, N.R_lst, N.R_mkF, N.R_mkT, N.R_meth, N.v_addT, Ri_rng1, Ri_rng2, Ri_seq]
  rw [show (1 : Int) + ((d : Nat) : Int) = ((1 + d : Nat) : Int) by omega]
  have kn : 1 + d ≤ most := by omega
  have k0 : 0 < 1 + d := by omega
  generalize 1 + d = n at kn k0
  refine ⟨by simp [lim], by trivial, ?_⟩
  simp only [List.zip_cons_cons, List.zip_nil_right, List.foldl_cons, List.foldl_nil, List.set_cons_succ, List.set_cons_zero, N.thn_nx]
  have hs1 : s1.length = rest.length + 2 := by rw [t1.len]; omega
  rw [hs1, Rs_seq]
  have t2 : BS (rest ++ [cP []]) (s1 ++ [.lst []]) := t1.app [.lst []]
  generalize s1 ++ [Cell.lst []] = s2 at t2 ⊢
  refine Rs_for (List.range (n - 1)) (fun k => .d (.int ((1 + k : Nat) : Int))) (fun k e s' => ∃ es, Pkr n es ∧ (∀ e ∈ es, e.2 < 1 + k) ∧ BS (rest ++ [cP es]) s' ∧ e = [some (.r 1), some (.d (.int (most : Nat))), some (.d (.int (n : Nat))), some (.r (rest.length + 2)), none, none, none, none]) ?_ (fun k x e s' hk hq => ?_) (fun e s' hq => ?_)
  · exact (rngI2 (a := 1) (n := n) (by omega) (by omega) rfl rfl).keep (P := fun s1 => ∃ es, Pkr n es ∧ (∀ e ∈ es, e.2 < 1 + 0) ∧ BS (rest ++ [cP es]) s1 ∧ _ = _) ⟨[], ⟨by simp, by simp, by simp⟩, by simp, t2, rfl⟩
  · obtain ⟨es, G, hb, t3, rfl⟩ := hq
    obtain ⟨hk1, hk2⟩ := List.getElem?_eq_some_iff.mp hk
    rw [List.getElem_range] at hk2
    subst hk2
    rw [List.length_range] at hk1
    rw [g_name, Rc_some]
    simp only [N.thn_nx, N.thn_rt, Rs_seq, Rs_set, Rs_ret, Rs_expr, Rs_nil, Rs_if, Rs_asg, Rs_aug, R_call, R_cons, R_nil, R_Var, R_C, R_bin, R_cmp, R_tcmp, R_tOr, R_tAnd, R_tNot, R_tVal, R_tTrue, R_ite, R_eAnd, R_eOr, R_eNot, R_neg, R_tup, R_isi, R_some, Rc_some, N.v_eq, N.v_ne, N.v_lt, N.v_le, N.v_gt, N.v_ge, N.v_add, N.v_sub, N.v_iadd, N.v_xor, N.v_int, N.tru_b, N.pd_d, N.data_nil, N.data_cons, N.len_t, N.v_tupT, N.g_name, N.isNone_n, N.isNone_t, N.isNone_i, N.v_isN, N.v_isNn, N.v_eqB, N.v_neB, List.set_cons_succ, List.set_cons_zero, List.getElem?_cons_succ, List.getElem?_cons_zero, Bool.not_true, Bool.not_false, Bool.false_eq_true, Bool.true_eq_false, eq_self, true_implies, false_implies, true_and, and_true, decide_true, decide_false, Int.zero_add, N.R_sl, N.R_it, R_oNone, R_oSome, wipeN, N.R_lst, N.R_mkF, N.R_mkT, N.R_meth, N.v_addT, Ri_rng1, Ri_rng2, Ri_seq]
    refine R_draw t3 (m := 8) (by decide) (by decide) fun d8 s4 hd8 t4 => ?_
    simp only [N.thn_nx, N.thn_rt, Rs_seq, Rs_set, Rs_ret, Rs_expr, Rs_nil, Rs_if, Rs_asg, Rs_aug, R_call, R_cons, R_nil, R_Var, R_C, R_bin, R_cmp, R_tcmp, R_tOr, R_tAnd, R_tNot, R_tVal, R_tTrue, R_ite, R_eAnd, R_eOr, R_eNot, R_neg, R_tup, R_isi, R_some, Rc_some, N.v_eq, N.v_ne, N.v_lt, N.v_le, N.v_gt, N.v_ge, N.v_add, N.v_sub, N.v_iadd, N.v_xor, N.v_int, N.tru_b, N.pd_d, N.data_nil, N.data_cons, N.len_t, N.v_tupT, N.g_name, N.isNone_n, N.isNone_t, N.isNone_i, N.v_isN, N.v_isNn, N.v_eqB, N.v_neB, List.set_cons_succ, List.set_cons_zero, List.getElem?_cons_succ, List.getElem?_cons_zero, Bool.not_true, Bool.not_false, Bool.false_eq_true, Bool.true_eq_false, eq_self, true_implies, false_implies, true_and, and_true, decide_true, decide_false, Int.zero_add, N.R_sl, N.R_it, R_oNone, R_oSome, wipeN, N.R_lst, N.R_mkF, N.R_mkT, N.R_meth, N.v_addT, Ri_rng1, Ri_rng2, Ri_seq]
    refine ⟨fun h => ?_, fun h => ?_⟩
    · have g4 : s4[rest.length + 2]? = some (.lst ((es.map prP).map D.d)) := t4.at
      simp only [g4]
      refine R_draw t4 (m := 1 + k) (by omega) (by omega) fun dp s5 hdp t5 => ?_
      have hl : ((es.map prP).map D.d).length < lim := by
        have h1 := G.len
        have h2 : n * n ≤ 12 * 12 := Nat.mul_le_mul (by omega) (by omega)
        simp only [List.length_map, lim]
        omega
      have g5 : s5[rest.length + 2]? = some (.lst ((es.map prP).map D.d)) := t5.at
      simp only [N.thn_nx, N.thn_rt, Rs_seq, Rs_set, Rs_ret, Rs_expr, Rs_nil, Rs_if, Rs_asg, Rs_aug, R_call, R_cons, R_nil, R_Var, R_C, R_bin, R_cmp, R_tcmp, R_tOr, R_tAnd, R_tNot, R_tVal, R_tTrue, R_ite, R_eAnd, R_eOr, R_eNot, R_neg, R_tup, R_isi, R_some, Rc_some, N.v_eq, N.v_ne, N.v_lt, N.v_le, N.v_gt, N.v_ge, N.v_add, N.v_sub, N.v_iadd, N.v_xor, N.v_int, N.tru_b, N.pd_d, N.data_nil, N.data_cons, N.len_t, N.v_tupT, N.g_name, N.isNone_n, N.isNone_t, N.isNone_i, N.v_isN, N.v_isNn, N.v_eqB, N.v_neB, List.set_cons_succ, List.set_cons_zero, List.getElem?_cons_succ, List.getElem?_cons_zero, Bool.not_true, Bool.not_false, Bool.false_eq_true, Bool.true_eq_false, eq_self, true_implies, false_implies, true_and, and_true, decide_true, decide_false, Int.zero_add, N.R_sl, N.R_it, R_oNone, R_oSome, wipeN, N.R_lst, N.R_mkF, N.R_mkT, N.R_meth, N.v_addT, Ri_rng1, Ri_rng2, Ri_seq, g5, N.v_app]
      refine ⟨by simp [lim], hl, ?_⟩
      have t6 := t5.set (cP (es ++ [(dp, 1 + k)]))
      rw [aft_nx, trimE_len (by rw [List.length_set, t5.set_len, t3.set_len])]
      refine ⟨es ++ [(dp, 1 + k)], G.add hdp (by omega) fun hm => ?_, fun e he => ?_, ?_, by simp [wipeN]⟩
      · have := hb _ hm
        simp only [] at this
        omega
      · rcases List.mem_append.mp he with he | he
        · have := hb e he
          omega
        · rw [List.mem_singleton.mp he]
          simp only []
          omega
      · have e1 : cP (es ++ [(dp, 1 + k)]) = .lst ((es.map prP).map D.d ++ [.d (.tuple [.int (dp : Nat), .int ((1 + k : Nat) : Int)])]) := by simp [cP]
        rw [e1] at t6 ⊢
        exact t6
    · rw [aft_nx, trimE_len (by rw [t4.set_len, t3.set_len])]
      exact ⟨es, G, fun e he => by have := hb e he; omega, t4, by simp [wipeN]⟩
  · obtain ⟨es, G, _, t3, rfl⟩ := hq
    rw [N.thn_nx, Rs_seq]
    have rng : Ri (iRng1 (aCons (eCall m__law_draw (aCons (eVar 0) (aCons (eBin (oAdd false) (eVar 2) (eC (.int 2))) aNil))) aNil) [some (.r 1), some (.d (.int (most : Nat))), some (.d (.int (n : Nat))), some (.r (rest.length + 2)), none, none, none, none] s') fun items ck s1 => ∃ m, m < 20 ∧ items = (List.range m).map (fun k => D.d (.int (k : Nat))) ∧ ck = none ∧ BS (rest ++ [cP es]) s1 := by
      rw [Ri_rng1]
      simp only [Rs_nil, R_call, R_cons, R_nil, R_Var, R_C, R_bin, R_cmp, R_tcmp, R_tOr, R_tAnd, R_tNot, R_tVal, R_tTrue, R_ite, R_eAnd, R_eOr, R_eNot, R_neg, R_tup, R_isi, R_some, Rc_some, N.v_eq, N.v_ne, N.v_lt, N.v_le, N.v_gt, N.v_ge, N.v_add, N.v_sub, N.v_iadd, N.v_xor, N.v_int, N.tru_b, N.pd_d, N.data_nil, N.data_cons, N.len_t, N.v_tupT, N.g_name, N.isNone_n, N.isNone_t, N.isNone_i, N.v_isN, N.v_isNn, N.v_eqB, N.v_neB, List.set_cons_succ, List.set_cons_zero, List.getElem?_cons_succ, List.getElem?_cons_zero, Bool.not_true, Bool.not_false, Bool.false_eq_true, Bool.true_eq_false, eq_self, true_implies, false_implies, true_and, and_true, decide_true, decide_false, Int.zero_add, N.R_sl, N.R_it, R_oNone, R_oSome, wipeN, N.R_lst, N.R_mkF, N.R_mkT, N.R_meth, N.v_addT, Ri_rng1, Ri_rng2, Ri_seq]
      rw [show ((n : Nat) : Int) + 2 = ((n + 2 : Nat) : Int) by omega]
      refine R_draw t3 (m := n + 2) (by omega) (Nat.lt_of_le_of_lt (show n + 2 ≤ 100 by omega) (by decide)) fun d s4 hd t4 => ?_
      exact ⟨⟨by omega, by omega⟩, d, by omega, rngN rfl, t4⟩
    obtain ⟨_, _, s6, hr, m, hm, rfl, rfl, t6⟩ := rng
    have rng : Ri (iRng1 (aCons (eCall m__law_draw (aCons (eVar 0) (aCons (eBin (oAdd false) (eVar 2) (eC (.int 2))) aNil))) aNil) [some (.r 1), some (.d (.int (most : Nat))), some (.d (.int (n : Nat))), some (.r (rest.length + 2)), none, none, none, none] s') fun items ck s1 => items = (List.range m).map (fun k => D.d (.int (k : Nat))) ∧ ck = none ∧ s1 = s6 := ⟨_, _, _, hr, rfl, rfl, rfl⟩
    refine Rs_for (List.range m) (fun k => .d (.int (k : Nat))) (fun k e s' => ∃ es, Pkr n es ∧ BS (rest ++ [cP es]) s' ∧ e = [some (.r 1), some (.d (.int (most : Nat))), some (.d (.int (n : Nat))), some (.r (rest.length + 2)), none, none, none, none]) (rng.keep ⟨es, G, t6, rfl⟩) (fun k x e s' hk hq => ?_) (fun e s' hq => ?_)
    · obtain ⟨es, G, t7, rfl⟩ := hq
      rw [g_name, Rc_some]
      simp only [N.thn_nx, N.thn_rt, Rs_seq, Rs_set, Rs_ret, Rs_expr, Rs_nil, Rs_if, Rs_asg, Rs_aug, R_call, R_cons, R_nil, R_Var, R_C, R_bin, R_cmp, R_tcmp, R_tOr, R_tAnd, R_tNot, R_tVal, R_tTrue, R_ite, R_eAnd, R_eOr, R_eNot, R_neg, R_tup, R_isi, R_some, Rc_some, N.v_eq, N.v_ne, N.v_lt, N.v_le, N.v_gt, N.v_ge, N.v_add, N.v_sub, N.v_iadd, N.v_xor, N.v_int, N.tru_b, N.pd_d, N.data_nil, N.data_cons, N.len_t, N.v_tupT, N.g_name, N.isNone_n, N.isNone_t, N.isNone_i, N.v_isN, N.v_isNn, N.v_eqB, N.v_neB, List.set_cons_succ, List.set_cons_zero, List.getElem?_cons_succ, List.getElem?_cons_zero, Bool.not_true, Bool.not_false, Bool.false_eq_true, Bool.true_eq_false, eq_self, true_implies, false_implies, true_and, and_true, decide_true, decide_false, Int.zero_add, N.R_sl, N.R_it, R_oNone, R_oSome, wipeN, N.R_lst, N.R_mkF, N.R_mkT, N.R_meth, N.v_addT, Ri_rng1, Ri_rng2, Ri_seq, Rs_par]
      refine R_draw t7 (m := n) k0 (Nat.lt_of_le_of_lt (show n ≤ 100 by omega) (by decide)) fun i s8 hi t8 => ?_
      refine R_draw t8 (m := n) k0 (Nat.lt_of_le_of_lt (show n ≤ 100 by omega) (by decide)) fun j s9 hj t9 => ?_
      refine ⟨by trivial, ?_⟩
      have g9 : s9[rest.length + 2]? = some (.lst ((es.map prP).map D.d)) := t9.at
      have l9 : LL s9 (.r (rest.length + 2)) (es.map prP) := .inr (.inr ⟨_, rfl, g9⟩)
      have hl : ((es.map prP).map D.d).length < lim := by
        have h1 := G.len
        have h2 : n * n ≤ 12 * 12 := Nat.mul_le_mul (by omega) (by omega)
        simp only [List.length_map, lim]
        omega
      have skip : ∃ es, Pkr n es ∧ BS (rest ++ [cP es]) (trimE s' (wipeN [some (.r 1), some (.d (.int (most : Nat))), some (.d (.int (n : Nat))), some (.r (rest.length + 2)), none, some (.d (.int (x : Nat))), some (.d (.int (i : Nat))), some (.d (.int (j : Nat)))] [5, 6, 7]) s9) ∧ wipeN [some (.r 1), some (.d (.int (most : Nat))), some (.d (.int (n : Nat))), some (.r (rest.length + 2)), none, some (.d (.int (x : Nat))), some (.d (.int (i : Nat))), some (.d (.int (j : Nat)))] [5, 6, 7] = [some (.r 1), some (.d (.int (most : Nat))), some (.d (.int (n : Nat))), some (.r (rest.length + 2)), none, none, none, none] := by
        rw [trimE_len (by rw [t9.set_len, t7.set_len])]
        exact ⟨es, G, t9, by simp [wipeN]⟩
      simp only [N.thn_nx, N.thn_rt, Rs_seq, Rs_set, Rs_ret, Rs_expr, Rs_nil, Rs_if, Rs_asg, Rs_aug, R_call, R_cons, R_nil, R_Var, R_C, R_bin, R_cmp, R_tcmp, R_tOr, R_tAnd, R_tNot, R_tVal, R_tTrue, R_ite, R_eAnd, R_eOr, R_eNot, R_neg, R_tup, R_isi, R_some, Rc_some, N.v_eq, N.v_ne, N.v_lt, N.v_le, N.v_gt, N.v_ge, N.v_add, N.v_sub, N.v_iadd, N.v_xor, N.v_int, N.tru_b, N.pd_d, N.data_nil, N.data_cons, N.len_t, N.v_tupT, N.g_name, N.isNone_n, N.isNone_t, N.isNone_i, N.v_isN, N.v_isNn, N.v_eqB, N.v_neB, List.set_cons_succ, List.set_cons_zero, List.getElem?_cons_succ, List.getElem?_cons_zero, Bool.not_true, Bool.not_false, Bool.false_eq_true, Bool.true_eq_false, eq_self, true_implies, false_implies, true_and, and_true, decide_true, decide_false, Int.zero_add, N.R_sl, N.R_it, R_oNone, R_oSome, wipeN, N.R_lst, N.R_mkF, N.R_mkT, N.R_meth, N.v_addT, Ri_rng1, Ri_rng2, Ri_seq, List.zip_cons_cons, List.zip_nil_right, List.foldl_cons, List.foldl_nil, v_min2, v_max2, mn2P, mx2P]
      refine ⟨fun h => ?_, fun h => by rw [aft_nx]; exact skip⟩
      have hne : ¬ i = j := by simp at h; omega
      rw [show PyData.tuple [PyData.int ((min i j : Nat) : Int), PyData.int ((max i j : Nat) : Int)] = prP (min i j, max i j) from rfl, in_prs l9, Rc_some, if_pos rfl]
      refine ⟨by simp [lim], fun hm => ?_, fun hm => by rw [aft_nx]; exact skip⟩
      have hm : (min i j, max i j) ∉ es := by simpa using hm
      simp only [N.thn_nx, N.thn_rt, Rs_seq, Rs_set, Rs_ret, Rs_expr, Rs_nil, Rs_if, Rs_asg, Rs_aug, R_call, R_cons, R_nil, R_Var, R_C, R_bin, R_cmp, R_tcmp, R_tOr, R_tAnd, R_tNot, R_tVal, R_tTrue, R_ite, R_eAnd, R_eOr, R_eNot, R_neg, R_tup, R_isi, R_some, Rc_some, N.v_eq, N.v_ne, N.v_lt, N.v_le, N.v_gt, N.v_ge, N.v_add, N.v_sub, N.v_iadd, N.v_xor, N.v_int, N.tru_b, N.pd_d, N.data_nil, N.data_cons, N.len_t, N.v_tupT, N.g_name, N.isNone_n, N.isNone_t, N.isNone_i, N.v_isN, N.v_isNn, N.v_eqB, N.v_neB, List.set_cons_succ, List.set_cons_zero, List.getElem?_cons_succ, List.getElem?_cons_zero, Bool.not_true, Bool.not_false, Bool.false_eq_true, Bool.true_eq_false, eq_self, true_implies, false_implies, true_and, and_true, decide_true, decide_false, Int.zero_add, N.R_sl, N.R_it, R_oNone, R_oSome, wipeN, N.R_lst, N.R_mkF, N.R_mkT, N.R_meth, N.v_addT, Ri_rng1, Ri_rng2, Ri_seq, g9, N.v_app, v_min2, v_max2, mn2P, mx2P]
      refine ⟨by simp [lim], hl, ?_⟩
      have t10 := t9.set (cP (es ++ [(min i j, max i j)]))
      rw [aft_nx, trimE_len (by rw [List.length_set, t9.set_len, t7.set_len])]
      refine ⟨es ++ [(min i j, max i j)], G.add (by omega) (by omega) hm, ?_, by simp [wipeN]⟩
      have e1 : cP (es ++ [(min i j, max i j)]) = .lst ((es.map prP).map D.d ++ [.d (.tuple [.int ((min i j : Nat) : Int), .int ((max i j : Nat) : Int)])]) := by simp [cP]
      rw [e1] at t10 ⊢
      exact t10
    · obtain ⟨es, G, t7, rfl⟩ := hq
      have g9 : s'[rest.length + 2]? = some (.lst ((es.map prP).map D.d)) := t7.at
      have l9 : LL s' (.r (rest.length + 2)) (es.map prP) := .inr (.inr ⟨_, rfl, g9⟩)
      rw [N.thn_nx, Rs_seq, Rs_ret, R_tup]
      simp only [R_cons, R_nil, R_call, R_Var, List.getElem?_cons_succ, List.getElem?_cons_zero]
      refine R_srtPr l9 (by simp) fun E hE => ?_
      simp only [v_tupL, R_some, N.data_cons, N.data_nil, Rc_some, N.thn_rt, R_retd]
      obtain ⟨s10, rfl, t10⟩ := t7.unapp
      rw [trim_wf (by rw [t10.len, t.len]) (t10.wf f)]
      exact ⟨by simp [lim], q n E s10 k0 kn (G.perm hE) t10⟩
end
end N

namespace N
open PySem L2 PyProof.Rows

def cN (L : List Nat) : Cell := .lst ((nt L).map .d)
section
variable {rest s : Sto} {n : Nat} {es : List (Nat × Nat)}
theorem BS.at2 {c d : Cell} (t : BS (rest ++ [c, d]) s) : s[rest.length + 2]? = some c ∧ s[rest.length + 3]? = some d := by
  rw [show rest.length + 3 = rest.length + 1 + 2 by omega, t.get, t.get]
  rw [List.getElem?_append_right (Nat.le_refl _), List.getElem?_append_right (by omega), Nat.sub_self, show rest.length + 1 - rest.length = 1 by omega]
  exact ⟨rfl, rfl⟩
theorem BS.set2a {c d : Cell} (t : BS (rest ++ [c, d]) s) (c' : Cell) : BS (rest ++ [c', d]) (s.set (rest.length + 2) c') := by
  have := t.put rest.length c'
  rw [List.set_append_right _ _ (Nat.le_refl _), Nat.sub_self] at this
  exact this
theorem BS.set2b {c d : Cell} (t : BS (rest ++ [c, d]) s) (c' : Cell) : BS (rest ++ [c, c']) (s.set (rest.length + 3) c') := by
  have := t.put (rest.length + 1) c'
  rw [List.set_append_right _ _ (by omega), show rest.length + 1 - rest.length = 1 by omega] at this
  exact this
theorem BS.len2 {c d : Cell} (t : BS (rest ++ [c, d]) s) : s.length = rest.length + 4 := by
  rw [t.len]
  simp
  omega
theorem ne_nilP (xs : List PyData) (h : pks xs = true) (hd : PyData.depthAll xs ≤ 50) (s : Sto) : cNe s (.d (.list xs)) (.d (.list [])) = some (!decide (xs = [])) := by
  rw [v_neP (x := .list xs) (y := .list []) rfl rfl (by simpa [pk] using h) rfl (by simp [PyData.depth, PyData.depthAll])]
  congr 2
  exact decide_eq_decide.mpr ⟨fun e => by injection e, fun e => by rw [e]⟩
theorem dep_prs (es : List (Nat × Nat)) : PyData.depthAll (es.map prP) ≤ 2 := by
  induction es with
  | nil => simp [PyData.depthAll]
  | cons e es ih =>
    simp only [List.map_cons, PyData.depthAll, PyData.depth] at ih ⊢
    omega
theorem R_apart (t : BS rest s) (f : Flat rest) (G : Pkr n es) (h0 : 0 < n) (hn : n ≤ 12) {Q : D → Sto → Prop} (q : ∀ (F : List (Nat × Nat)) (L : List Nat) (s' : Sto), LOk n es L → leftX n es (F.map prP) (List.range n) = some L → L.length ≤ n → F.length ≤ n → (1 < L.length → csP n es L = []) → (∀ p ∈ F, p.1 < n ∧ p.2 < n) → BS rest s' → Q (.d (.tuple [.tuple (F.map prP), .bool (decide (L.length = 1))])) s') : R (m__law_apart s [.r 1, .d (parD n es)]) Q := by
  unfold m__law_apart b__law_apart
  rw [R_fn]
  refine ⟨rfl, ?_⟩
  simp only [List.map_cons, List.map_nil, List.cons_append, List.nil_append, List.length_cons, List.length_nil, Nat.reduceSub, Nat.reduceAdd, List.replicate_succ, List.replicate_zero]
  rw [Rs_seq, Rs_par, R_cons]
  simp only [R_call, R_cons, R_nil, R_Var, List.getElem?_cons_succ, List.getElem?_cons_zero]
  rw [lawnear_ok G (by omega), R_some]
  refine R_lstRx (i := n) ?_ (by omega) ?_
  · simp only [Rs_nil, R_call, R_cons, R_nil, R_Var, R_C, R_bin, R_cmp, R_tcmp, R_tOr, R_tAnd, R_tNot, R_tVal, R_tTrue, R_ite, R_eAnd, R_eOr, R_eNot, R_neg, R_tup, R_isi, R_some, Rc_some, N.v_eq, N.v_ne, N.v_lt, N.v_le, N.v_gt, N.v_ge, N.v_add, N.v_sub, N.v_iadd, N.v_xor, N.v_int, N.tru_b, N.pd_d, N.data_nil, N.data_cons, N.len_t, N.v_tupT, N.g_name, N.isNone_n, N.isNone_t, N.isNone_i, N.v_isN, N.v_isNn, N.v_eqB, N.v_neB, List.set_cons_succ, List.set_cons_zero, List.getElem?_cons_succ, List.getElem?_cons_zero, Bool.not_true, Bool.not_false, Bool.false_eq_true, Bool.true_eq_false, eq_self, true_implies, false_implies, true_and, and_true, decide_true, decide_false, Int.zero_add, N.R_sl, N.R_it, R_oNone, R_oSome, wipeN, N.R_lst, N.R_mkF, N.R_mkT, N.R_meth, N.v_addT, Ri_rng1, Ri_rng2, Ri_seq, fst_par]
  simp only [Rs_nil, R_call, R_cons, R_nil, R_Var, R_C, R_bin, R_cmp, R_tcmp, R_tOr, R_tAnd, R_tNot, R_tVal, R_tTrue, R_ite, R_eAnd, R_eOr, R_eNot, R_neg, R_tup, R_isi, R_some, Rc_some, N.v_eq, N.v_ne, N.v_lt, N.v_le, N.v_gt, N.v_ge, N.v_add, N.v_sub, N.v_iadd, N.v_xor, N.v_int, N.tru_b, N.pd_d, N.data_nil, N.data_cons, N.len_t, N.v_tupT, N.g_name, N.isNone_n, N.isNone_t, N.isNone_i, N.v_isN, N.v_isNn, N.v_eqB, N.v_neB, List.set_cons_succ, List.set_cons_zero, List.getElem?_cons_succ, List.getElem?_cons_zero, Bool.not_true, Bool.not_false, Bool.false_eq_true, Bool.true_eq_false, eq_self, true_implies, false_implies, true_and, and_true, decide_true, decide_false, Int.zero_add, N.R_sl, N.R_it, R_oNone, R_oSome, wipeN, N.R_lst, N.R_mkF, N.R_mkT, N.R_meth, N.v_addT, Ri_rng1, Ri_rng2, Ri_seq]
  refine ⟨by simp [lim], by trivial, ?_⟩
  simp only [List.zip_cons_cons, List.zip_nil_right, List.foldl_cons, List.foldl_nil, List.set_cons_succ, List.set_cons_zero, N.thn_nx, List.length_append, List.length_cons, List.length_nil, Nat.zero_add, List.append_assoc, List.cons_append, List.nil_append]
  have t2 : BS (rest ++ [cN (List.range n), cP []]) (s ++ [.lst ((nt (List.range n)).map D.d), .lst []]) := t.app _
  rw [show s.length = rest.length + 2 by rw [t.len]; omega, Rs_seq]
  generalize s ++ [Cell.lst ((nt (List.range n)).map D.d), .lst []] = s2 at t2 ⊢
  refine Rs_while (fun m e s' => ∃ L F, L.length = m ∧ L.length + F.length = n ∧ LOk n es L ∧ leftX n es (F.map prP) (List.range n) = some L ∧ (∀ p ∈ F, p.1 < n ∧ p.2 < n) ∧ BS (rest ++ [cN L, cP F]) s' ∧ e = [some (.r 1), some (.d (parD n es)), some (.d (rwL n es)), some (.r (rest.length + 2)), some (.r (rest.length + 3)), none, none]) (m := n) (Nat.lt_of_le_of_lt hn (by decide)) ⟨List.range n, [], by simp, by simp, LOk.start h0, rfl, by simp, t2, rfl⟩ (fun m e s' hi => ?_)
  obtain ⟨L, F, h1, h2, l, h3, hF, t3, rfl⟩ := hi
  have g0 : s'[rest.length + 2]? = some (.lst ((nt L).map D.d)) := t3.at2.1
  have ll : LL s' (.r (rest.length + 2)) (nt L) := .inr (.inr ⟨_, rfl, g0⟩)
  have hcl : (csP n es L).length ≤ 144 := Nat.le_trans (cs_len n es L) (Nat.mul_le_mul (by omega : L.length ≤ 12) (by omega : L.length ≤ 12))
  have fin : (1 < L.length → csP n es L = []) → Rs ((sSeq (sRet (eTup (aCons (eCall bTuple (aCons (eVar 4) aNil)) (aCons (eCmp cEq (eCall bLen (aCons (eVar 3) aNil)) (eC (.int 1))) aNil)))) sNil) [some (.r 1), some (.d (parD n es)), some (.d (rwL n es)), some (.r (rest.length + 2)), some (.r (rest.length + 3)), none, none] s') fun fl _ s'' => match fl with
    | .rt d => R (ret false s d s'') Q
    | .nx => R (ret false s (.d .none) s'') Q
    | _ => False := fun hc => by
    have g1 : s'[rest.length + 3]? = some (.lst ((F.map prP).map D.d)) := t3.at2.2
    simp only [N.thn_nx, N.thn_rt, Rs_seq, Rs_set, Rs_ret, Rs_expr, Rs_nil, Rs_if, Rs_asg, Rs_aug, R_call, R_cons, R_nil, R_Var, R_C, R_bin, R_cmp, R_tcmp, R_tOr, R_tAnd, R_tNot, R_tVal, R_tTrue, R_ite, R_eAnd, R_eOr, R_eNot, R_neg, R_tup, R_isi, R_some, Rc_some, N.v_eq, N.v_ne, N.v_lt, N.v_le, N.v_gt, N.v_ge, N.v_add, N.v_sub, N.v_iadd, N.v_xor, N.v_int, N.tru_b, N.pd_d, N.data_nil, N.data_cons, N.len_t, N.v_tupT, N.g_name, N.isNone_n, N.isNone_t, N.isNone_i, N.v_isN, N.v_isNn, N.v_eqB, N.v_neB, List.set_cons_succ, List.set_cons_zero, List.getElem?_cons_succ, List.getElem?_cons_zero, Bool.not_true, Bool.not_false, Bool.false_eq_true, Bool.true_eq_false, eq_self, true_implies, false_implies, true_and, and_true, decide_true, decide_false, Int.zero_add, N.R_sl, N.R_it, R_oNone, R_oSome, wipeN, N.R_lst, N.R_mkF, N.R_mkT, N.R_meth, N.v_addT, Ri_rng1, Ri_rng2, Ri_seq, v_tupR g1, len_LL ll]
    refine ⟨by simp [lim], ?_⟩
    simp only [N.thn_rt, R_retd]
    obtain ⟨s10, rfl, t10⟩ := t3.unapp
    rw [trim_wf (by rw [t10.len, t.len]) (t10.wf f)]
    have := q F L s10 l h3 (by omega) (by omega) hc hF t10
    rw [show decide (((nt L).length : Int) = 1) = decide (L.length = 1) from decide_eq_decide.mpr (by simp [nt]; omega)]
    exact this
  rw [R_tAnd]
  simp only [R_tcmp, R_call, R_cons, R_nil, R_Var, List.getElem?_cons_succ, List.getElem?_cons_zero, len_LL ll, R_some, R_C, N.v_gt, Rc_some]
  rw [show decide ((1 : Int) < ((nt L).length : Nat)) = decide (1 < L.length) from decide_eq_decide.mpr (by simp [nt]; omega)]
  refine ⟨fun hb => ?_, fun hb => ⟨fun _ => fin fun h => absurd h (of_decide_eq_false hb), fun h => by cases h⟩⟩
  have hb := of_decide_eq_true hb
  rw [lawcorners_ok ll l.lt (by omega) (by omega), R_some]
  simp only [Rs_nil, R_call, R_cons, R_nil, R_Var, R_C, R_bin, R_cmp, R_tcmp, R_tOr, R_tAnd, R_tNot, R_tVal, R_tTrue, R_ite, R_eAnd, R_eOr, R_eNot, R_neg, R_tup, R_isi, R_some, Rc_some, N.v_eq, N.v_ne, N.v_lt, N.v_le, N.v_gt, N.v_ge, N.v_add, N.v_sub, N.v_iadd, N.v_xor, N.v_int, N.tru_b, N.pd_d, N.data_nil, N.data_cons, N.len_t, N.v_tupT, N.g_name, N.isNone_n, N.isNone_t, N.isNone_i, N.v_isN, N.v_isNn, N.v_eqB, N.v_neB, List.set_cons_succ, List.set_cons_zero, List.getElem?_cons_succ, List.getElem?_cons_zero, Bool.not_true, Bool.not_false, Bool.false_eq_true, Bool.true_eq_false, eq_self, true_implies, false_implies, true_and, and_true, decide_true, decide_false, Int.zero_add, N.R_sl, N.R_it, R_oNone, R_oSome, wipeN, N.R_lst, N.R_mkF, N.R_mkT, N.R_meth, N.v_addT, Ri_rng1, Ri_rng2, Ri_seq]
  refine ⟨by simp [lim], ?_⟩
  rw [ne_nilP _ (pk_prs _) (Nat.le_trans (dep_prs _) (by omega)), Rc_some]
  refine ⟨fun hc => fin fun _ => ?_, fun hc => ?_⟩
  · simpa using hc
  have hc : csP n es L ≠ [] := by simpa using hc
  simp only [N.thn_nx, N.thn_rt, Rs_seq, Rs_set, Rs_ret, Rs_expr, Rs_nil, Rs_if, Rs_asg, Rs_aug, R_call, R_cons, R_nil, R_Var, R_C, R_bin, R_cmp, R_tcmp, R_tOr, R_tAnd, R_tNot, R_tVal, R_tTrue, R_ite, R_eAnd, R_eOr, R_eNot, R_neg, R_tup, R_isi, R_some, Rc_some, N.v_eq, N.v_ne, N.v_lt, N.v_le, N.v_gt, N.v_ge, N.v_add, N.v_sub, N.v_iadd, N.v_xor, N.v_int, N.tru_b, N.pd_d, N.data_nil, N.data_cons, N.len_t, N.v_tupT, N.g_name, N.isNone_n, N.isNone_t, N.isNone_i, N.v_isN, N.v_isNn, N.v_eqB, N.v_neB, List.set_cons_succ, List.set_cons_zero, List.getElem?_cons_succ, List.getElem?_cons_zero, Bool.not_true, Bool.not_false, Bool.false_eq_true, Bool.true_eq_false, eq_self, true_implies, false_implies, true_and, and_true, decide_true, decide_false, Int.zero_add, N.R_sl, N.R_it, R_oNone, R_oSome, wipeN, N.R_lst, N.R_mkF, N.R_mkT, N.R_meth, N.v_addT, Ri_rng1, Ri_rng2, Ri_seq, lawcorners_ok ll l.lt (show L.length ≤ n by omega) (show n ≤ 100 by omega), len_l]
  refine R_draw t3 (m := ((csP n es L).map prP).length) (by rw [List.length_map]; exact List.length_pos_iff.mpr hc) (by rw [List.length_map]; exact Nat.lt_of_le_of_lt hcl (by decide)) fun d s4 hd t4 => ?_
  rw [List.length_map] at hd
  have hp : (csP n es L)[d] ∈ csP n es L := List.getElem_mem hd
  rw [itF_tl (atI_nat (show ((csP n es L).map prP)[d]? = some (prP (csP n es L)[d]) by rw [List.getElem?_map, List.getElem?_eq_getElem hd]; rfl)), Rc_some]
  generalize (csP n es L)[d] = p at hp ⊢
  have hm := mem_cs.mp hp
  have g1 : s4[rest.length + 3]? = some (.lst ((F.map prP).map D.d)) := t4.at2.2
  simp only [N.thn_nx, N.thn_rt, Rs_seq, Rs_set, Rs_ret, Rs_expr, Rs_nil, Rs_if, Rs_asg, Rs_aug, R_call, R_cons, R_nil, R_Var, R_C, R_bin, R_cmp, R_tcmp, R_tOr, R_tAnd, R_tNot, R_tVal, R_tTrue, R_ite, R_eAnd, R_eOr, R_eNot, R_neg, R_tup, R_isi, R_some, Rc_some, N.v_eq, N.v_ne, N.v_lt, N.v_le, N.v_gt, N.v_ge, N.v_add, N.v_sub, N.v_iadd, N.v_xor, N.v_int, N.tru_b, N.pd_d, N.data_nil, N.data_cons, N.len_t, N.v_tupT, N.g_name, N.isNone_n, N.isNone_t, N.isNone_i, N.v_isN, N.v_isNn, N.v_eqB, N.v_neB, List.set_cons_succ, List.set_cons_zero, List.getElem?_cons_succ, List.getElem?_cons_zero, Bool.not_true, Bool.not_false, Bool.false_eq_true, Bool.true_eq_false, eq_self, true_implies, false_implies, true_and, and_true, decide_true, decide_false, Int.zero_add, N.R_sl, N.R_it, R_oNone, R_oSome, wipeN, N.R_lst, N.R_mkF, N.R_mkT, N.R_meth, N.v_addT, Ri_rng1, Ri_rng2, Ri_seq, g1, N.v_app]
  refine ⟨by simp [lim]; omega, ?_⟩
  have t5 := t4.set2b (cP (F ++ [p]))
  have e1 : cP (F ++ [p]) = .lst ((F.map prP).map D.d ++ [.d (prP p)]) := by simp [cP]
  rw [e1] at t5
  rw [← e1] at t5
  have g2 : (s4.set (rest.length + 3) (.lst ((F.map prP).map D.d ++ [.d (prP p)])))[rest.length + 2]? = some (.lst ((nt L).map D.d)) := by
    rw [← e1]
    exact t5.at2.1
  simp only [N.thn_nx, N.thn_rt, Rs_seq, Rs_set, Rs_ret, Rs_expr, Rs_nil, Rs_if, Rs_asg, Rs_aug, R_call, R_cons, R_nil, R_Var, R_C, R_bin, R_cmp, R_tcmp, R_tOr, R_tAnd, R_tNot, R_tVal, R_tTrue, R_ite, R_eAnd, R_eOr, R_eNot, R_neg, R_tup, R_isi, R_some, Rc_some, N.v_eq, N.v_ne, N.v_lt, N.v_le, N.v_gt, N.v_ge, N.v_add, N.v_sub, N.v_iadd, N.v_xor, N.v_int, N.tru_b, N.pd_d, N.data_nil, N.data_cons, N.len_t, N.v_tupT, N.g_name, N.isNone_n, N.isNone_t, N.isNone_i, N.v_isN, N.v_isNn, N.v_eqB, N.v_neB, List.set_cons_succ, List.set_cons_zero, List.getElem?_cons_succ, List.getElem?_cons_zero, Bool.not_true, Bool.not_false, Bool.false_eq_true, Bool.true_eq_false, eq_self, true_implies, false_implies, true_and, and_true, decide_true, decide_false, Int.zero_add, N.R_sl, N.R_it, R_oNone, R_oSome, wipeN, N.R_lst, N.R_mkF, N.R_mkT, N.R_meth, N.v_addT, Ri_rng1, Ri_rng2, Ri_seq, g2, it_1 (xs := [.int (p.1 : Nat), .int (p.2 : Nat)]) rfl]
  refine v_rem hm.1 ?_
  have t6 := t5.set2a (cN (L.erase p.1))
  have le := List.length_erase_of_mem hm.1
  rw [aft_nx, trimE_len (by rw [List.length_set, List.length_set, t4.len2, t3.len2])]
  refine ⟨L.length - 1, by omega, L.erase p.1, F ++ [p], by omega, by simp; omega, l.step hm.1 hm.2.1 hm.2.2, ?_, fun x hx => ?_, ?_, by simp [wipeN]⟩
  · rw [List.map_append]
    exact leftX_one l h3 hp
  · rcases List.mem_append.mp hx with hx | hx
    · exact hF x hx
    · rw [List.mem_singleton.mp hx]
      exact ⟨l.lt _ hm.1, l.lt _ hm.2.1⟩
  · rw [← e1]
    exact t6
end
end N

namespace Pk

def rch (nb : Nat → List Nat) (p : Nat) : Nat → Nat → Prop
  | 0, v => v = p
  | k + 1, v => rch nb p k v ∨ ∃ u, rch nb p k u ∧ v ∈ nb u
def Dst (nb : Nat → List Nat) (p v k : Nat) : Prop := rch nb p k v ∧ ∀ j < k, ¬ rch nb p j v
section
variable {nb : Nat → List Nat} {p : Nat}
theorem Dst.uniq {v k j : Nat} (h : Dst nb p v k) (h' : Dst nb p v j) : k = j := by
  rcases Nat.lt_trichotomy k j with e | e | e
  · exact (h'.2 k e h.1).elim
  · exact e
  · exact (h.2 j e h'.1).elim
theorem dst_of {v : Nat} : ∀ {k : Nat}, rch nb p k v → ∃ j, j ≤ k ∧ Dst nb p v j := fun {k} => by
  induction k using Nat.strongRecOn with
  | _ k ih =>
    intro r
    by_cases h : ∃ j, j < k ∧ rch nb p j v
    · obtain ⟨j, h1, h2⟩ := h
      obtain ⟨i, h3, h4⟩ := ih j h1 h2
      exact ⟨i, by omega, h4⟩
    · exact ⟨k, Nat.le_refl _, r, fun j hj hr => h ⟨j, hj, hr⟩⟩
theorem Dst.pred {v k : Nat} (h : Dst nb p v (k + 1)) : ∃ u, Dst nb p u k ∧ v ∈ nb u := by
  rcases h.1 with h1 | ⟨u, h1, h2⟩
  · exact (h.2 k (by omega) h1).elim
  · exact ⟨u, ⟨h1, fun j hj hr => h.2 (j + 1) (by omega) (.inr ⟨u, hr, h2⟩)⟩, h2⟩
theorem Dst.zero : Dst nb p p 0 := ⟨rfl, fun j hj => absurd hj (by omega)⟩
theorem Dst.of_zero {v : Nat} (h : Dst nb p v 0) : v = p := h.1
open Classical in
noncomputable def dv (nb : Nat → List Nat) (p v : Nat) : Nat := if h : ∃ k, Dst nb p v k then Classical.choose h else 0
theorem Dst.dv {v k : Nat} (h : Dst nb p v k) : Pk.dv nb p v = k := by
  unfold Pk.dv
  have hh : ∃ k, Dst nb p v k := ⟨k, h⟩
  rw [dif_pos hh]
  exact (Classical.choose_spec hh).uniq h
theorem Dst.at {v k : Nat} (h : Dst nb p v k) : Dst nb p v (Pk.dv nb p v) := by rw [h.dv]; exact h
/-- all that one place is near lies in what is known: the closed end -/
theorem closed_all {K : Nat → Prop} (h0 : K p) (hc : ∀ u, K u → ∀ w ∈ nb u, K w) : ∀ {k v : Nat}, rch nb p k v → K v
  | 0, v, h => by
    have h : v = p := h
    rw [h]; exact h0
  | k + 1, v, h => by
    rcases h with h | ⟨u, h1, h2⟩
    · exact closed_all h0 hc h
    · exact hc u (closed_all h0 hc h1) v h2
/-- a row of places whose turn comes -/
structure BO (nb : Nat → List Nat) (n p : Nat) (P Q : List Nat) : Prop where
  nd : (P ++ Q).Nodup
  lt : ∀ v ∈ P ++ Q, v < n
  re : ∀ v ∈ P ++ Q, Dst nb p v (dv nb p v)
  pin : p ∈ P ++ Q
  cl : ∀ u ∈ P, ∀ w ∈ nb u, w ∈ P ++ Q
  sr : Q.Pairwise fun a b => dv nb p a ≤ dv nb p b
  cr : ∀ x ∈ P, ∀ b ∈ Q, dv nb p x ≤ dv nb p b
  sp : ∀ a ∈ Q, ∀ b ∈ Q, dv nb p b ≤ dv nb p a + 1
structure BN (nb : Nat → List Nat) (n p : Nat) (P : List Nat) (u : Nat) (Q : List Nat) : Prop where
  nd : (P ++ u :: Q).Nodup
  lt : ∀ v ∈ P ++ u :: Q, v < n
  re : ∀ v ∈ P ++ u :: Q, Dst nb p v (dv nb p v)
  pin : p ∈ P ++ u :: Q
  cl : ∀ u' ∈ P, ∀ w ∈ nb u', w ∈ P ++ u :: Q
  sr : Q.Pairwise fun a b => dv nb p a ≤ dv nb p b
  le : ∀ x ∈ P, dv nb p x ≤ dv nb p u
  lo : ∀ b ∈ Q, dv nb p u ≤ dv nb p b
  hi : ∀ b ∈ Q, dv nb p b ≤ dv nb p u + 1
variable {n u : Nat} {P Q : List Nat}
theorem BO.start (h : p < n) : BO nb n p [] [p] := ⟨by simp, by simpa using h, fun v hv => by simp at hv; subst hv; exact Dst.zero.at, by simp, by simp, by simp, by simp, fun a ha b hb => by simp at ha hb; subst ha; subst hb; omega⟩
theorem BO.pop (h : BO nb n p P (u :: Q)) : BN nb n p P u Q := by
  have sr := List.pairwise_cons.mp h.sr
  exact ⟨h.nd, h.lt, h.re, h.pin, h.cl, sr.2, fun x hx => h.cr x hx u List.mem_cons_self, sr.1, fun b hb => h.sp u List.mem_cons_self b (List.mem_cons_of_mem _ hb)⟩
theorem BN.below (h : BN nb n p P u Q) : ∀ (i x : Nat), i < dv nb p u → Dst nb p x i → x ∈ P := by
  have key : ∀ {i x : Nat}, i < dv nb p u → Dst nb p x i → x ∈ P ++ u :: Q → x ∈ P := fun {i x} hi hd hm => by
    rcases List.mem_append.mp hm with hm | hm
    · exact hm
    · rcases List.mem_cons.mp hm with e | hm
      · rw [← e, hd.dv] at hi; omega
      · have := h.lo x hm
        rw [hd.dv] at this
        omega
  intro i
  induction i with
  | zero => exact fun x hi hd => key hi hd (by rw [hd.of_zero]; exact h.pin)
  | succ i ih =>
    intro x hi hd
    obtain ⟨y, h1, h2⟩ := hd.pred
    exact key hi hd (h.cl y (ih y (by omega) h1) x h2)
theorem BN.new (h : BN nb n p P u Q) {w : Nat} (hw : w ∈ nb u) (hn : w ∉ P ++ u :: Q) : Dst nb p w (dv nb p u + 1) := by
  have ru := h.re u (by simp)
  refine ⟨.inr ⟨u, ru.1, hw⟩, fun j hj hr => ?_⟩
  obtain ⟨i, h1, h2⟩ := dst_of hr
  cases i with
  | zero => exact hn (by rw [h2.of_zero]; exact h.pin)
  | succ i =>
    obtain ⟨x, h3, h4⟩ := h2.pred
    exact hn (h.cl x (h.below i x (by omega) h3) w h4)
theorem BN.add (h : BN nb n p P u Q) {w : Nat} (hw : w ∈ nb u) (hl : w < n) (hn : w ∉ P ++ u :: Q) : BN nb n p P u (Q ++ [w]) := by
  have hd := h.new hw hn
  have e : P ++ u :: (Q ++ [w]) = (P ++ u :: Q) ++ [w] := by simp
  have m : ∀ {v : Nat}, v ∈ P ++ u :: (Q ++ [w]) ↔ v ∈ P ++ u :: Q ∨ v = w := fun {v} => by rw [e, List.mem_append, List.mem_singleton]
  refine ⟨?_, fun v hv => ?_, fun v hv => ?_, m.mpr (.inl h.pin), fun u' hu w' hw' => m.mpr (.inl (h.cl u' hu w' hw')), ?_, h.le, fun b hb => ?_, fun b hb => ?_⟩
  · rw [e, List.nodup_append]
    exact ⟨h.nd, by simp, fun a ha b hb e2 => hn (by rw [List.mem_singleton] at hb; rw [← hb, ← e2]; exact ha)⟩
  · rcases m.mp hv with hv | rfl
    · exact h.lt v hv
    · exact hl
  · rcases m.mp hv with hv | rfl
    · exact h.re v hv
    · exact hd.at
  · rw [List.pairwise_append]
    refine ⟨h.sr, by simp, fun a ha b hb => ?_⟩
    rw [List.mem_singleton] at hb
    subst hb
    rw [hd.dv]
    exact h.hi a ha
  · rcases List.mem_append.mp hb with hb | hb
    · exact h.lo b hb
    · rw [List.mem_singleton] at hb
      subst hb
      rw [hd.dv]
      omega
  · rcases List.mem_append.mp hb with hb | hb
    · exact h.hi b hb
    · rw [List.mem_singleton] at hb
      subst hb
      rw [hd.dv]
      omega
theorem BN.done (h : BN nb n p P u Q) (hc : ∀ w ∈ nb u, w ∈ P ++ u :: Q) : BO nb n p (P ++ [u]) Q := by
  have e : P ++ [u] ++ Q = P ++ u :: Q := by simp
  refine ⟨by rw [e]; exact h.nd, by rw [e]; exact h.lt, by rw [e]; exact h.re, by rw [e]; exact h.pin, fun u' hu => ?_, h.sr, fun x hx b hb => ?_, fun a ha b hb => ?_⟩
  · rw [e]
    rcases List.mem_append.mp hu with hu | hu
    · exact h.cl u' hu
    · rw [List.mem_singleton.mp hu]; exact hc
  · have h1 := h.lo b hb
    rcases List.mem_append.mp hx with hx | hx
    · have := h.le x hx
      omega
    · rw [List.mem_singleton.mp hx]; exact h1
  · have h1 := h.lo a ha
    have h2 := h.hi b hb
    omega
theorem BO.end_ (h : BO nb n p P []) (v : Nat) : v ∈ P ↔ ∃ k, Dst nb p v k := by
  have e : P ++ [] = P := List.append_nil P
  constructor
  · intro hv
    exact ⟨_, h.re v (by rw [e]; exact hv)⟩
  · rintro ⟨k, hk⟩
    refine closed_all (K := fun v => v ∈ P) (by have := h.pin; rwa [e] at this) (fun u hu w hw => ?_) hk.1
    have := h.cl u hu w hw
    rwa [e] at this
/-- ring by ring -/
structure BR (nb : Nat → List Nat) (n p t : Nat) (ks ring : List Nat) : Prop where
  nd : ks.Nodup
  lt : ∀ v ∈ ks, v < n
  ks : ∀ v, v ∈ ks ↔ ∃ j, j ≤ t ∧ Dst nb p v j
  ring : ∀ v, v ∈ ring ↔ Dst nb p v t
theorem BR.start (h : p < n) : BR nb n p 0 [p] [p] := ⟨by simp, by simpa using h, fun v => by
  rw [List.mem_singleton]
  exact ⟨fun e => ⟨0, Nat.le_refl _, e ▸ Dst.zero⟩, fun ⟨j, h1, h2⟩ => by rw [show j = 0 by omega] at h2; exact h2.of_zero⟩, fun v => by
  rw [List.mem_singleton]
  exact ⟨fun e => e ▸ Dst.zero, fun h => h.of_zero⟩⟩
theorem BR.next {t : Nat} {ks ring r2 : List Nat} (h : BR nb n p t ks ring) (hb : ∀ u < n, ∀ w ∈ nb u, w < n) (nd : r2.Nodup) (hm : ∀ w, w ∈ r2 ↔ (∃ u ∈ ring, w ∈ nb u) ∧ w ∉ ks) : BR nb n p (t + 1) (ks ++ r2) r2 := by
  have hr : ∀ v, v ∈ r2 ↔ Dst nb p v (t + 1) := fun v => by
    rw [hm]
    constructor
    · rintro ⟨⟨u, hu, hw⟩, hk⟩
      refine ⟨.inr ⟨u, ((h.ring u).mp hu).1, hw⟩, fun j hj hr => hk ?_⟩
      obtain ⟨i, h1, h2⟩ := dst_of hr
      exact (h.ks v).mpr ⟨i, by omega, h2⟩
    · intro hd
      obtain ⟨u, h1, h2⟩ := hd.pred
      refine ⟨⟨u, (h.ring u).mpr h1, h2⟩, fun hk => ?_⟩
      obtain ⟨j, h3, h4⟩ := (h.ks v).mp hk
      have := hd.uniq h4
      omega
  refine ⟨?_, fun v hv => ?_, fun v => ?_, hr⟩
  · rw [List.nodup_append]
    exact ⟨h.nd, nd, fun a ha b hb e => ((hm b).mp hb).2 (e ▸ ha)⟩
  · rcases List.mem_append.mp hv with hv | hv
    · exact h.lt v hv
    · obtain ⟨⟨u, hu, hw⟩, _⟩ := (hm v).mp hv
      exact hb u (h.lt u ((h.ks u).mpr ⟨t, Nat.le_refl _, (h.ring u).mp hu⟩)) v hw
  · rw [List.mem_append, h.ks, hr]
    constructor
    · rintro (⟨j, h1, h2⟩ | h)
      · exact ⟨j, by omega, h2⟩
      · exact ⟨t + 1, Nat.le_refl _, h⟩
    · rintro ⟨j, h1, h2⟩
      by_cases e : j = t + 1
      · right; rw [← e]; exact h2
      · exact .inl ⟨j, by omega, h2⟩
theorem no_later {t : Nat} (h : ∀ v, ¬ Dst nb p v t) : ∀ {k v : Nat}, t ≤ k → ¬ Dst nb p v k := fun {k} => by
  induction k with
  | zero => intro v ht; rw [show t = 0 by omega] at h; exact h v
  | succ k ih =>
    intro v ht hd
    by_cases e : t = k + 1
    · rw [e] at h; exact h v hd
    · obtain ⟨u, h1, _⟩ := hd.pred
      exact ih (by omega) h1
theorem BR.end_ {t : Nat} {ks : List Nat} (h : BR nb n p t ks []) (v : Nat) : v ∈ ks ↔ ∃ k, Dst nb p v k := by
  rw [h.ks]
  constructor
  · rintro ⟨j, _, h2⟩; exact ⟨j, h2⟩
  · rintro ⟨k, hk⟩
    have hn : ∀ v, ¬ Dst nb p v t := fun v hd => by
      have := (h.ring v).mpr hd
      cases this
    by_cases e : k ≤ t
    · exact ⟨k, e, hk⟩
    · exact (no_later hn (by omega) hk).elim
theorem BR.val {t : Nat} {ks ring : List Nat} (h : BR nb n p t ks ring) {v : Nat} (hv : v ∈ ring) : dv nb p v = t := ((h.ring v).mp hv).dv
end
end Pk

namespace N
open PySem L2 PyProof.Rows

def DZ (f : Nat → D) (ks : List Nat) : List (Key × D) := ks.map fun (v : Nat) => (Sum.inl (v : Int), f v)
theorem DZ_has (f : Nat → D) (ks : List Nat) (v : Nat) : kHas (DZ f ks) (.inl (v : Int)) = decide (v ∈ ks) := by
  unfold kHas DZ
  rw [Bool.eq_iff_iff]
  simp only [List.any_map, List.any_eq_true, Function.comp, decide_eq_true_eq, Sum.inl.injEq]
  constructor
  · rintro ⟨x, h, e⟩
    rw [show v = x by omega]
    exact h
  · exact fun h => ⟨v, h, rfl⟩
theorem DZ_get (f : Nat → D) : ∀ (ks : List Nat) (v : Nat), kGet (DZ f ks) (.inl (v : Int)) = if v ∈ ks then some (f v) else none
  | [], v => by simp [DZ, kGet]
  | x :: ks, v => by
    have ih := DZ_get f ks v
    unfold kGet DZ at ih ⊢
    rw [List.map_cons, List.find?_cons]
    by_cases e : x = v
    · subst e
      simp
    · have e2 : ¬ ((Sum.inl (x : Int) : Key) = .inl (v : Int)) := fun h => e (by injection h; omega)
      simp only [decide_eq_false e2]
      rw [ih]
      have e3 : ¬ v = x := fun h => e h.symm
      simp [e3]
theorem DZ_put (f : Nat → D) {ks : List Nat} {v : Nat} (h : v ∉ ks) : kPut (DZ f ks) (.inl (v : Int)) (f v) = DZ f (ks ++ [v]) := by
  unfold kPut
  rw [DZ_has, decide_eq_false h, if_neg Bool.false_ne_true]
  simp [DZ]
theorem DZ_len (f : Nat → D) (ks : List Nat) : (DZ f ks).length = ks.length := by simp [DZ]
theorem DZ_putAll (f : Nat → PyData) : ∀ (l ks : List Nat), (ks ++ l).Nodup → kPutAll (DZ (fun v => .d (f v)) ks) (l.map fun (v : Nat) => (Sum.inl (v : Int), f v)) = DZ (fun v => .d (f v)) (ks ++ l)
  | [], ks, _ => by simp [kPutAll]
  | v :: l, ks, h => by
    have e : ks ++ v :: l = (ks ++ [v]) ++ l := by simp
    have hv : v ∉ ks := fun hm => by
      rw [List.nodup_append] at h
      exact h.2.2 v hm v List.mem_cons_self rfl
    have ih := DZ_putAll f l (ks ++ [v]) (by rw [← e]; exact h)
    rw [e, ← ih, ← DZ_put (fun v => .d (f v)) hv]
    rfl
theorem R_disp1 {i v : Nat} {e : Lo} {s : Sto} {Q : D → Sto → Prop} (h : e[i]? = some (some (.d (.int (v : Nat))))) (q : Q (.r s.length) (s ++ [.dk [(.inl (v : Int), .d (.int 0))]])) : R (eDisp (ppV (eVar i) (eC (.int 0)) ppN) e s) Q := by
  unfold eDisp ppV eVar eC ppN
  simp only [h, keyOf]
  rw [List.getElem?_append_right (Nat.le_refl _), Nat.sub_self]
  simp only [List.getElem?_cons_zero, List.length_cons, List.length_nil]
  rw [if_pos (by omega), R_some, List.set_append_right _ _ (Nat.le_refl _), Nat.sub_self]
  exact q
theorem R_getDZ {ma mi : ME} {e : Lo} {s : Sto} {j v : Nat} {f : Nat → D} {ks : List Nat} {Q : D → Sto → Prop} (hm : ma e s = some (.r j, s)) (hj : s[j]? = some (.dk (DZ f ks))) (hi : mi e s = some (.d (.int (v : Nat)), s)) (q : Q (if v ∈ ks then f v else .d .none) s) : R (eGetK ma mi e s) Q := by
  unfold eGetK
  simp only [hm, hj, hi, keyOf, R_some]
  rw [DZ_get]
  by_cases h : v ∈ ks
  · rw [if_pos h] at q ⊢
    exact q
  · rw [if_neg h] at q ⊢
    exact q
theorem in_DZ {neg : Bool} {s : Sto} {j v : Nat} {f : Nat → D} {ks : List Nat} (hj : s[j]? = some (.dk (DZ f ks))) : cIn neg s (.d (.int (v : Nat))) (.r j) = some (if neg then !decide (v ∈ ks) else decide (v ∈ ks)) := by
  rw [v_inK hj (k := .inl (v : Int)) rfl, DZ_has]
theorem it_DZ {s : Sto} {j v : Nat} {f : Nat → D} {ks : List Nat} (hj : s[j]? = some (.dk (DZ f ks))) (h : v ∈ ks) : itF s (.r j) (.d (.int (v : Nat))) = some (f v) := by
  unfold itF gIxU gIx asSeq asL kIx
  simp only [hj, keyOf, DZ_get, if_pos h]
theorem put_DZ {s : Sto} {j v : Nat} {f : Nat → D} {ks : List Nat} (hj : s[j]? = some (.dk (DZ f ks))) (h : v ∉ ks) (hl : ks.length < lim) : putF s (.r j) (.d (.int (v : Nat))) (f v) = some (s.set j (.dk (DZ f (ks ++ [v])))) := by
  unfold putF
  simp only [hj, keyOf, DZ_len]
  rw [if_pos hl, DZ_put f h]
section
variable {n : Nat} {es : List (Nat × Nat)} {s : Sto}
noncomputable def fD (n : Nat) (es : List (Nat × Nat)) (p v : Nat) : PyData := .int (Pk.dv (nbP n es) p v : Nat)
open Classical in
noncomputable def stV (n : Nat) (es : List (Nat × Nat)) (p v : Nat) : PyData := if ∃ k, Pk.Dst (nbP n es) p v k then fD n es p v else .none
noncomputable def stD (n : Nat) (es : List (Nat × Nat)) (p : Nat) : PyData := .tuple ((List.range n).map (stV n es p))
def sF (s : Sto) (f : Nat → D) (ks Q : List Nat) : Sto := s ++ [.dk (DZ f ks), cN Q]
theorem sF_0 {f : Nat → D} {ks Q : List Nat} : (sF s f ks Q)[s.length]? = some (.dk (DZ f ks)) := by simp [sF]
theorem sF_1 {f : Nat → D} {ks Q : List Nat} : (sF s f ks Q)[s.length + 1]? = some (cN Q) := by
  unfold sF
  rw [List.getElem?_append_right (by omega), show s.length + 1 - s.length = 1 by omega]
  rfl
theorem sF_set0 {f f' : Nat → D} {ks ks' Q : List Nat} : (sF s f ks Q).set s.length (.dk (DZ f' ks')) = sF s f' ks' Q := by
  unfold sF
  rw [List.set_append_right _ _ (Nat.le_refl _), Nat.sub_self]
  rfl
theorem sF_set1 {f : Nat → D} {ks Q Q' : List Nat} : (sF s f ks Q).set (s.length + 1) (cN Q') = sF s f ks Q' := by
  unfold sF
  rw [List.set_append_right _ _ (by omega), show s.length + 1 - s.length = 1 by omega]
  rfl
theorem sF_len {f : Nat → D} {ks Q : List Nat} : (sF s f ks Q).length = s.length + 2 := by simp [sF]
theorem nb_ok {n u w : Nat} {es : List (Nat × Nat)} (h : w ∈ nbP n es u) : w < n := (mem_nb.mp h).1
theorem nd_len {n : Nat} {l : List Nat} (nd : l.Nodup) (h : ∀ v ∈ l, v < n) : l.length ≤ n := by
  have := Z.nd_sub nd (l2 := List.range n) fun x hx => List.mem_range.mpr (h x hx)
  rwa [List.length_range] at this
theorem Ri_T {m : ME} {e : Lo} {s : Sto} {L : List Nat} (hm : m e s = some (.d (.tuple (nt L)), s)) : Ri (iSeq m e s) fun items ck s1 => items = L.map (fun t => D.d (.int (t : Nat))) ∧ ck = none ∧ s1 = s := by
  rw [Ri_seq, hm, R_some]
  exact ⟨by rw [nt, List.map_map]; rfl, rfl, rfl⟩
theorem steps_ok (G : Pkr n es) (hn : n ≤ 100) (he : es.length ≤ 10000) {p : Nat} (hp : p < n) : m_steps_from s [.d (parD n es), .d (.int (p : Nat))] = some (.d (stD n es p), s) := by
  apply R.eq
  unfold m_steps_from b_steps_from
  simp only [R_fn]
  refine ⟨rfl, ?_⟩
  simp only [List.map_cons, List.map_nil, List.cons_append, List.nil_append, List.length_cons, List.length_nil, List.replicate, Nat.reduceSub, Nat.reduceAdd]
  rw [Rs_seq, Rs_par, R_cons]
  simp only [R_call, R_cons, R_nil, R_Var, List.getElem?_cons_succ, List.getElem?_cons_zero]
  rw [near_ok G hn he, R_some]
  refine R_disp1 rfl ?_
  simp only [Rs_nil, R_call, R_cons, R_nil, R_Var, R_C, R_bin, R_cmp, R_tcmp, R_tOr, R_tAnd, R_tNot, R_tVal, R_tTrue, R_ite, R_eAnd, R_eOr, R_eNot, R_neg, R_tup, R_isi, R_some, Rc_some, N.v_eq, N.v_ne, N.v_lt, N.v_le, N.v_gt, N.v_ge, N.v_add, N.v_sub, N.v_iadd, N.v_xor, N.v_int, N.tru_b, N.pd_d, N.data_nil, N.data_cons, N.len_t, N.v_tupT, N.g_name, N.isNone_n, N.isNone_t, N.isNone_i, N.v_isN, N.v_isNn, N.v_eqB, N.v_neB, List.set_cons_succ, List.set_cons_zero, List.getElem?_cons_succ, List.getElem?_cons_zero, Bool.not_true, Bool.not_false, Bool.false_eq_true, Bool.true_eq_false, eq_self, true_implies, false_implies, true_and, and_true, decide_true, decide_false, Int.zero_add, N.R_sl, N.R_it, R_oNone, R_oSome, wipeN, N.R_lst, N.R_mkF, N.R_mkT, N.R_meth, N.v_addT, Ri_rng1, Ri_rng2, Ri_seq]
  refine ⟨by simp [lim], by trivial, ?_⟩
  simp only [List.zip_cons_cons, List.zip_nil_right, List.foldl_cons, List.foldl_nil, List.set_cons_succ, List.set_cons_zero, N.thn_nx, List.length_append, List.length_cons, List.length_nil, Nat.zero_add, List.append_assoc, List.cons_append, List.nil_append]
  have f0 : (fun v => D.d (fD n es p v)) p = .d (.int 0) := by
    show D.d (PyData.int (Pk.dv (nbP n es) p p : Nat)) = _
    rw [(Pk.Dst.zero (nb := nbP n es)).dv]
    rfl
  have hs : s ++ [Cell.dk [(Sum.inl (p : Int), D.d (.int 0))], Cell.lst [D.d (.int (p : Nat))]] = sF s (fun v => .d (fD n es p v)) [p] [p] := by
    unfold sF DZ cN nt
    rw [List.map_singleton, f0]
    rfl
  rw [hs, Rs_seq]
  refine Rs_while (fun m e s' => ∃ P Q o6, P.length + m = n ∧ Pk.BO (nbP n es) n p P Q ∧ s' = sF s (fun v => .d (fD n es p v)) (P ++ Q) Q ∧ e = [some (.d (parD n es)), some (.d (.int (p : Nat))), some (.d (.tuple ((rwP n es).map tup))), some (.r s.length), some (.r (s.length + 1)), none, o6]) (m := n) (Nat.lt_of_le_of_lt hn (by decide)) ⟨[], [p], none, by simp, Pk.BO.start hp, rfl, rfl⟩ (fun m e s' hi => ?_)
  obtain ⟨P, Q, o6, h1, B, rfl, rfl⟩ := hi
  simp only [Rs_nil, R_call, R_cons, R_nil, R_Var, R_C, R_bin, R_cmp, R_tcmp, R_tOr, R_tAnd, R_tNot, R_tVal, R_tTrue, R_ite, R_eAnd, R_eOr, R_eNot, R_neg, R_tup, R_isi, R_some, Rc_some, N.v_eq, N.v_ne, N.v_lt, N.v_le, N.v_gt, N.v_ge, N.v_add, N.v_sub, N.v_iadd, N.v_xor, N.v_int, N.tru_b, N.pd_d, N.data_nil, N.data_cons, N.len_t, N.v_tupT, N.g_name, N.isNone_n, N.isNone_t, N.isNone_i, N.v_isN, N.v_isNn, N.v_eqB, N.v_neB, List.set_cons_succ, List.set_cons_zero, List.getElem?_cons_succ, List.getElem?_cons_zero, Bool.not_true, Bool.not_false, Bool.false_eq_true, Bool.true_eq_false, eq_self, true_implies, false_implies, true_and, and_true, decide_true, decide_false, Int.zero_add, N.R_sl, N.R_it, R_oNone, R_oSome, wipeN, N.R_lst, N.R_mkF, N.R_mkT, N.R_meth, N.v_addT, Ri_rng1, Ri_rng2, Ri_seq]
  rw [show truD (sF s (fun v => .d (fD n es p v)) (P ++ Q) Q) (.r (s.length + 1)) = some (!Q.isEmpty) from by
    unfold truD
    simp only [sF_1, cN]
    cases Q <;> rfl, Rc_some]
  refine ⟨fun hb => ?_, fun hb => ?_⟩
  · have hq : Q = [] := by
      cases Q with
      | nil => rfl
      | cons u q => cases hb
    subst hq
    rw [N.thn_nx, Rs_seq, Rs_ret, R_call, R_cons]
    refine R_lcmG (List.range n) (fun k => .d (.int (k : Nat))) (stV n es p) (rngI (by omega) (m_of ?_)) (fun v hv acc => ?_) (by simp [lim]; omega) ?_
    · simp only [Rs_nil, R_call, R_cons, R_nil, R_Var, R_C, R_bin, R_cmp, R_tcmp, R_tOr, R_tAnd, R_tNot, R_tVal, R_tTrue, R_ite, R_eAnd, R_eOr, R_eNot, R_neg, R_tup, R_isi, R_some, Rc_some, N.v_eq, N.v_ne, N.v_lt, N.v_le, N.v_gt, N.v_ge, N.v_add, N.v_sub, N.v_iadd, N.v_xor, N.v_int, N.tru_b, N.pd_d, N.data_nil, N.data_cons, N.len_t, N.v_tupT, N.g_name, N.isNone_n, N.isNone_t, N.isNone_i, N.v_isN, N.v_isNn, N.v_eqB, N.v_neB, List.set_cons_succ, List.set_cons_zero, List.getElem?_cons_succ, List.getElem?_cons_zero, Bool.not_true, Bool.not_false, Bool.false_eq_true, Bool.true_eq_false, eq_self, true_implies, false_implies, true_and, and_true, decide_true, decide_false, Int.zero_add, N.R_sl, N.R_it, R_oNone, R_oSome, wipeN, N.R_lst, N.R_mkF, N.R_mkT, N.R_meth, N.v_addT, Ri_rng1, Ri_rng2, Ri_seq, fst_par]
    · rw [g_name, Rc_some]
      have g0 : (sF s (fun v => .d (fD n es p v)) (P ++ []) [] ++ [Cell.lst acc])[s.length]? = some (.dk (DZ (fun v => .d (fD n es p v)) (P ++ []))) := by
        rw [List.getElem?_append_left (by rw [sF_len]; omega)]
        exact sF_0
      refine R_getDZ (v := v) (m_of ?_) g0 (m_of ?_) ?_
      · simp only [Rs_nil, R_call, R_cons, R_nil, R_Var, R_C, R_bin, R_cmp, R_tcmp, R_tOr, R_tAnd, R_tNot, R_tVal, R_tTrue, R_ite, R_eAnd, R_eOr, R_eNot, R_neg, R_tup, R_isi, R_some, Rc_some, N.v_eq, N.v_ne, N.v_lt, N.v_le, N.v_gt, N.v_ge, N.v_add, N.v_sub, N.v_iadd, N.v_xor, N.v_int, N.tru_b, N.pd_d, N.data_nil, N.data_cons, N.len_t, N.v_tupT, N.g_name, N.isNone_n, N.isNone_t, N.isNone_i, N.v_isN, N.v_isNn, N.v_eqB, N.v_neB, List.set_cons_succ, List.set_cons_zero, List.getElem?_cons_succ, List.getElem?_cons_zero, Bool.not_true, Bool.not_false, Bool.false_eq_true, Bool.true_eq_false, eq_self, true_implies, false_implies, true_and, and_true, decide_true, decide_false, Int.zero_add, N.R_sl, N.R_it, R_oNone, R_oSome, wipeN, N.R_lst, N.R_mkF, N.R_mkT, N.R_meth, N.v_addT, Ri_rng1, Ri_rng2, Ri_seq]
      · simp only [Rs_nil, R_call, R_cons, R_nil, R_Var, R_C, R_bin, R_cmp, R_tcmp, R_tOr, R_tAnd, R_tNot, R_tVal, R_tTrue, R_ite, R_eAnd, R_eOr, R_eNot, R_neg, R_tup, R_isi, R_some, Rc_some, N.v_eq, N.v_ne, N.v_lt, N.v_le, N.v_gt, N.v_ge, N.v_add, N.v_sub, N.v_iadd, N.v_xor, N.v_int, N.tru_b, N.pd_d, N.data_nil, N.data_cons, N.len_t, N.v_tupT, N.g_name, N.isNone_n, N.isNone_t, N.isNone_i, N.v_isN, N.v_isNn, N.v_eqB, N.v_neB, List.set_cons_succ, List.set_cons_zero, List.getElem?_cons_succ, List.getElem?_cons_zero, Bool.not_true, Bool.not_false, Bool.false_eq_true, Bool.true_eq_false, eq_self, true_implies, false_implies, true_and, and_true, decide_true, decide_false, Int.zero_add, N.R_sl, N.R_it, R_oNone, R_oSome, wipeN, N.R_lst, N.R_mkF, N.R_mkT, N.R_meth, N.v_addT, Ri_rng1, Ri_rng2, Ri_seq]
      · refine ⟨?_, rfl⟩
        rw [List.append_nil]
        have := B.end_ v
        unfold stV
        by_cases h : v ∈ P
        · rw [if_pos h, if_pos (this.mp h)]
        · rw [if_neg h, if_neg (fun h2 => h (this.mpr h2))]
    · simp only [R_nil, v_tupL, R_some, N.thn_rt, R_retd]
      unfold sF
      rw [trim_app]
      exact ⟨rfl, rfl⟩
  · obtain ⟨u, Q, rfl⟩ : ∃ u q, Q = u :: q := by
      cases Q with
      | nil => cases hb
      | cons u q => exact ⟨u, q, rfl⟩
    have N0 := B.pop
    have hu : u < n := B.lt u (by simp)
    have g1 : (sF s (fun v => .d (fD n es p v)) (P ++ u :: Q) (u :: Q))[s.length + 1]? = some (.lst (D.d (.int (u : Nat)) :: (nt Q).map D.d)) := sF_1
    simp only [N.thn_nx, N.thn_rt, Rs_seq, Rs_set, Rs_ret, Rs_expr, Rs_nil, Rs_if, Rs_asg, Rs_aug, R_call, R_cons, R_nil, R_Var, R_C, R_bin, R_cmp, R_tcmp, R_tOr, R_tAnd, R_tNot, R_tVal, R_tTrue, R_ite, R_eAnd, R_eOr, R_eNot, R_neg, R_tup, R_isi, R_some, Rc_some, N.v_eq, N.v_ne, N.v_lt, N.v_le, N.v_gt, N.v_ge, N.v_add, N.v_sub, N.v_iadd, N.v_xor, N.v_int, N.tru_b, N.pd_d, N.data_nil, N.data_cons, N.len_t, N.v_tupT, N.g_name, N.isNone_n, N.isNone_t, N.isNone_i, N.v_isN, N.v_isNn, N.v_eqB, N.v_neB, List.set_cons_succ, List.set_cons_zero, List.getElem?_cons_succ, List.getElem?_cons_zero, Bool.not_true, Bool.not_false, Bool.false_eq_true, Bool.true_eq_false, eq_self, true_implies, false_implies, true_and, and_true, decide_true, decide_false, Int.zero_add, N.R_sl, N.R_it, R_oNone, R_oSome, wipeN, N.R_lst, N.R_mkF, N.R_mkT, N.R_meth, N.v_addT, Ri_rng1, Ri_rng2, Ri_seq, g1]
    refine v_pop0 ?_
    rw [show Cell.lst ((nt Q).map D.d) = cN Q from rfl, sF_set1]
    refine Rs_for (nbP n es u) (fun t => .d (.int (t : Nat))) (fun k e s' => ∃ Q' o6, Pk.BN (nbP n es) n p P u Q' ∧ (∀ w ∈ (nbP n es u).take k, w ∈ P ++ u :: Q') ∧ s' = sF s (fun v => .d (fD n es p v)) (P ++ u :: Q') Q' ∧ e = [some (.d (parD n es)), some (.d (.int (p : Nat))), some (.d (.tuple ((rwP n es).map tup))), some (.r s.length), some (.r (s.length + 1)), some (.d (.int (u : Nat))), o6]) ((Ri_T (m_of ?_)).keep ⟨Q, o6, N0, by simp, rfl, rfl⟩) (fun k w e s' hk hq => ?_) (fun e s' hq => ?_)
    · simp only [Rs_nil, R_call, R_cons, R_nil, R_Var, R_C, R_bin, R_cmp, R_tcmp, R_tOr, R_tAnd, R_tNot, R_tVal, R_tTrue, R_ite, R_eAnd, R_eOr, R_eNot, R_neg, R_tup, R_isi, R_some, Rc_some, N.v_eq, N.v_ne, N.v_lt, N.v_le, N.v_gt, N.v_ge, N.v_add, N.v_sub, N.v_iadd, N.v_xor, N.v_int, N.tru_b, N.pd_d, N.data_nil, N.data_cons, N.len_t, N.v_tupT, N.g_name, N.isNone_n, N.isNone_t, N.isNone_i, N.v_isN, N.v_isNn, N.v_eqB, N.v_neB, List.set_cons_succ, List.set_cons_zero, List.getElem?_cons_succ, List.getElem?_cons_zero, Bool.not_true, Bool.not_false, Bool.false_eq_true, Bool.true_eq_false, eq_self, true_implies, false_implies, true_and, and_true, decide_true, decide_false, Int.zero_add, N.R_sl, N.R_it, R_oNone, R_oSome, wipeN, N.R_lst, N.R_mkF, N.R_mkT, N.R_meth, N.v_addT, Ri_rng1, Ri_rng2, Ri_seq, rowT_at hu]
    · obtain ⟨Q', o6, b, hc, rfl, rfl⟩ := hq
      obtain ⟨hk1, hk2⟩ := List.getElem?_eq_some_iff.mp hk
      have hw : w ∈ nbP n es u := by rw [← hk2]; exact List.getElem_mem hk1
      have tk : (nbP n es u).take (k + 1) = (nbP n es u).take k ++ [w] := by rw [List.take_add_one, hk]; rfl
      rw [g_name, Rc_some]
      simp only [N.thn_nx, N.thn_rt, Rs_seq, Rs_set, Rs_ret, Rs_expr, Rs_nil, Rs_if, Rs_asg, Rs_aug, R_call, R_cons, R_nil, R_Var, R_C, R_bin, R_cmp, R_tcmp, R_tOr, R_tAnd, R_tNot, R_tVal, R_tTrue, R_ite, R_eAnd, R_eOr, R_eNot, R_neg, R_tup, R_isi, R_some, Rc_some, N.v_eq, N.v_ne, N.v_lt, N.v_le, N.v_gt, N.v_ge, N.v_add, N.v_sub, N.v_iadd, N.v_xor, N.v_int, N.tru_b, N.pd_d, N.data_nil, N.data_cons, N.len_t, N.v_tupT, N.g_name, N.isNone_n, N.isNone_t, N.isNone_i, N.v_isN, N.v_isNn, N.v_eqB, N.v_neB, List.set_cons_succ, List.set_cons_zero, List.getElem?_cons_succ, List.getElem?_cons_zero, Bool.not_true, Bool.not_false, Bool.false_eq_true, Bool.true_eq_false, eq_self, true_implies, false_implies, true_and, and_true, decide_true, decide_false, Int.zero_add, N.R_sl, N.R_it, R_oNone, R_oSome, wipeN, N.R_lst, N.R_mkF, N.R_mkT, N.R_meth, N.v_addT, Ri_rng1, Ri_rng2, Ri_seq, in_DZ sF_0]
      refine ⟨fun h => ?_, fun h => ?_⟩
      · have h : w ∉ P ++ u :: Q' := by simpa using h
        have hd := b.new hw h
        have hl : (P ++ u :: Q').length < lim := by
          have := nd_len b.nd b.lt
          simp only [lim]
          omega
        rw [Rs_pu]
        simp only [N.thn_nx, N.thn_rt, Rs_seq, Rs_set, Rs_ret, Rs_expr, Rs_nil, Rs_if, Rs_asg, Rs_aug, R_call, R_cons, R_nil, R_Var, R_C, R_bin, R_cmp, R_tcmp, R_tOr, R_tAnd, R_tNot, R_tVal, R_tTrue, R_ite, R_eAnd, R_eOr, R_eNot, R_neg, R_tup, R_isi, R_some, Rc_some, N.v_eq, N.v_ne, N.v_lt, N.v_le, N.v_gt, N.v_ge, N.v_add, N.v_sub, N.v_iadd, N.v_xor, N.v_int, N.tru_b, N.pd_d, N.data_nil, N.data_cons, N.len_t, N.v_tupT, N.g_name, N.isNone_n, N.isNone_t, N.isNone_i, N.v_isN, N.v_isNn, N.v_eqB, N.v_neB, List.set_cons_succ, List.set_cons_zero, List.getElem?_cons_succ, List.getElem?_cons_zero, Bool.not_true, Bool.not_false, Bool.false_eq_true, Bool.true_eq_false, eq_self, true_implies, false_implies, true_and, and_true, decide_true, decide_false, Int.zero_add, N.R_sl, N.R_it, R_oNone, R_oSome, wipeN, N.R_lst, N.R_mkF, N.R_mkT, N.R_meth, N.v_addT, Ri_rng1, Ri_rng2, Ri_seq, it_DZ sF_0 (show u ∈ P ++ u :: Q' by simp), fD]
        rw [show D.d (PyData.int ((Pk.dv (nbP n es) p u : Nat) + 1)) = (fun v => D.d (fD n es p v)) w from by
          show _ = D.d (PyData.int (Pk.dv (nbP n es) p w : Nat))
          rw [hd.dv]
          rfl]
        have pp := put_DZ (f := fun v => D.d (fD n es p v)) (v := w) (sF_0 (s := s) (Q := Q')) h hl
        unfold fD at pp ⊢
        rw [pp, Rc_some]
        rw [show s.length = s.length from rfl]
        have s1 := sF_set0 (s := s) (f := fun v => D.d (fD n es p v)) (f' := fun v => D.d (fD n es p v)) (ks := P ++ u :: Q') (ks' := P ++ u :: Q' ++ [w]) (Q := Q')
        unfold fD at s1
        rw [s1]
        have g1 : (sF s (fun v => D.d (PyData.int (Pk.dv (nbP n es) p v : Nat))) (P ++ u :: Q' ++ [w]) Q')[s.length + 1]? = some (.lst ((nt Q').map D.d)) := sF_1
        simp only [N.thn_nx, N.thn_rt, Rs_seq, Rs_set, Rs_ret, Rs_expr, Rs_nil, Rs_if, Rs_asg, Rs_aug, R_call, R_cons, R_nil, R_Var, R_C, R_bin, R_cmp, R_tcmp, R_tOr, R_tAnd, R_tNot, R_tVal, R_tTrue, R_ite, R_eAnd, R_eOr, R_eNot, R_neg, R_tup, R_isi, R_some, Rc_some, N.v_eq, N.v_ne, N.v_lt, N.v_le, N.v_gt, N.v_ge, N.v_add, N.v_sub, N.v_iadd, N.v_xor, N.v_int, N.tru_b, N.pd_d, N.data_nil, N.data_cons, N.len_t, N.v_tupT, N.g_name, N.isNone_n, N.isNone_t, N.isNone_i, N.v_isN, N.v_isNn, N.v_eqB, N.v_neB, List.set_cons_succ, List.set_cons_zero, List.getElem?_cons_succ, List.getElem?_cons_zero, Bool.not_true, Bool.not_false, Bool.false_eq_true, Bool.true_eq_false, eq_self, true_implies, false_implies, true_and, and_true, decide_true, decide_false, Int.zero_add, N.R_sl, N.R_it, R_oNone, R_oSome, wipeN, N.R_lst, N.R_mkF, N.R_mkT, N.R_meth, N.v_addT, Ri_rng1, Ri_rng2, Ri_seq, g1, N.v_app]
        refine ⟨by simp [nt, lim]; have := nd_len b.nd b.lt; simp at this; omega, ?_⟩
        rw [show Cell.lst ((nt Q').map D.d ++ [D.d (PyData.int (w : Nat))]) = cN (Q' ++ [w]) from by simp [cN, nt], sF_set1, aft_nx, trimE_len (by rw [sF_len, sF_len])]
        refine ⟨Q' ++ [w], some (.d (.int (w : Nat))), b.add hw (nb_ok hw) h, fun x hx => ?_, ?_, by simp [wipeN]⟩
        · rw [tk] at hx
          have e : P ++ u :: (Q' ++ [w]) = P ++ u :: Q' ++ [w] := by simp
          rw [e, List.mem_append, List.mem_singleton]
          rcases List.mem_append.mp hx with hx | hx
          · exact .inl (hc x hx)
          · exact .inr (List.mem_singleton.mp hx)
        · rw [show P ++ u :: Q' ++ [w] = P ++ u :: (Q' ++ [w]) by simp]
      · have h : w ∈ P ++ u :: Q' := by
          rw [if_pos trivial] at h
          simpa only [Bool.not_eq_false', decide_eq_true_eq] using h
        rw [aft_nx, trimE_len rfl]
        refine ⟨Q', some (.d (.int (w : Nat))), b, fun x hx => ?_, rfl, by simp [wipeN]⟩
        rw [tk] at hx
        rcases List.mem_append.mp hx with hx | hx
        · exact hc x hx
        · rw [List.mem_singleton.mp hx]; exact h
    · obtain ⟨Q', o6, b, hc, rfl, rfl⟩ := hq
      rw [List.take_length] at hc
      have hl := nd_len b.nd b.lt
      rw [List.length_append, List.length_cons] at hl
      simp only [N.thn_nx, N.thn_rt, Rs_seq, Rs_set, Rs_ret, Rs_expr, Rs_nil, Rs_if, Rs_asg, Rs_aug, R_call, R_cons, R_nil, R_Var, R_C, R_bin, R_cmp, R_tcmp, R_tOr, R_tAnd, R_tNot, R_tVal, R_tTrue, R_ite, R_eAnd, R_eOr, R_eNot, R_neg, R_tup, R_isi, R_some, Rc_some, N.v_eq, N.v_ne, N.v_lt, N.v_le, N.v_gt, N.v_ge, N.v_add, N.v_sub, N.v_iadd, N.v_xor, N.v_int, N.tru_b, N.pd_d, N.data_nil, N.data_cons, N.len_t, N.v_tupT, N.g_name, N.isNone_n, N.isNone_t, N.isNone_i, N.v_isN, N.v_isNn, N.v_eqB, N.v_neB, List.set_cons_succ, List.set_cons_zero, List.getElem?_cons_succ, List.getElem?_cons_zero, Bool.not_true, Bool.not_false, Bool.false_eq_true, Bool.true_eq_false, eq_self, true_implies, false_implies, true_and, and_true, decide_true, decide_false, Int.zero_add, N.R_sl, N.R_it, R_oNone, R_oSome, wipeN, N.R_lst, N.R_mkF, N.R_mkT, N.R_meth, N.v_addT, Ri_rng1, Ri_rng2, Ri_seq]
      rw [aft_nx, trimE_len (by rw [sF_len, sF_len])]
      exact ⟨m - 1, by omega, P ++ [u], Q', o6, by simp; omega, b.done hc, by simp, by simp [wipeN]⟩
end
end N

namespace N
open PySem L2 PyProof.Rows
theorem kprs_DZ (f : Nat → PyData) : ∀ l : List Nat, kprs ((l.map fun (v : Nat) => PyData.tuple [.int (v : Nat), f v]).map .d) = some (l.map fun (v : Nat) => (Sum.inl (v : Int), f v))
  | [] => rfl
  | v :: l => by
    have ih := kprs_DZ f l
    simp only [List.map_cons, kprs, keyOf] at ih ⊢
    rw [ih]
theorem R_updDZ {ma : ME} {ms : MA} {e : Lo} {s : Sto} {j : Nat} {f : Nat → PyData} {ks l : List Nat} {Q : D → Sto → Prop} (hm : ma e s = some (.r j, s)) (hj : s[j]? = some (.dk (DZ (fun v => .d (f v)) ks))) (ha : R (ms e s) fun ds s1 => ds = [.d (.list (l.map fun (v : Nat) => PyData.tuple [.int (v : Nat), f v]))] ∧ s1 = s) (nd : (ks ++ l).Nodup) (hl : ks.length + l.length ≤ lim) (q : Q (.d .none) (s.set j (.dk (DZ (fun v => .d (f v)) (ks ++ l))))) : R (eUpdK ma ms e s) Q := by
  obtain ⟨_, _, h1, rfl, rfl⟩ := ha
  unfold eUpdK asL
  simp only [hm, hj, h1, kprs_DZ]
  rw [if_pos (by rw [List.length_map, DZ_len]; exact hl), R_some, DZ_putAll f l ks nd]
  exact q
end N
namespace T72
open PySem L2 PyProof.Rows N
section
variable {n : Nat} {es : List (Nat × Nat)} {s : Sto}
theorem BR_ring {nb : Nat → List Nat} {n p t : Nat} {ks ring : List Nat} (B : Pk.BR nb n p t ks ring) : ∀ v ∈ ring, v < n := fun v hv => B.lt v ((B.ks v).mpr ⟨t, Nat.le_refl _, (B.ring v).mp hv⟩)
theorem far_ok (hn : n ≤ 7) {p : Nat} (hp : p < n) : m__law_far s [.d (rwL n es), .d (.int (p : Nat))] = some (.d (stD n es p), s) := by
  apply R.eq
  unfold m__law_far b__law_far
  simp only [R_fn]
  refine ⟨rfl, ?_⟩
  simp only [List.map_cons, List.map_nil, List.cons_append, List.nil_append, List.length_cons, List.length_nil, List.replicate, Nat.reduceSub, Nat.reduceAdd]
  rw [Rs_seq, Rs_par, R_cons]
  refine R_disp1 rfl ?_
  simp only [Rs_nil, R_call, R_cons, R_nil, R_Var, R_C, R_bin, R_cmp, R_tcmp, R_tOr, R_tAnd, R_tNot, R_tVal, R_tTrue, R_ite, R_eAnd, R_eOr, R_eNot, R_neg, R_tup, R_isi, R_some, Rc_some, N.v_eq, N.v_ne, N.v_lt, N.v_le, N.v_gt, N.v_ge, N.v_add, N.v_sub, N.v_iadd, N.v_xor, N.v_int, N.tru_b, N.pd_d, N.data_nil, N.data_cons, N.len_t, N.v_tupT, N.g_name, N.isNone_n, N.isNone_t, N.isNone_i, N.v_isN, N.v_isNn, N.v_eqB, N.v_neB, List.set_cons_succ, List.set_cons_zero, List.getElem?_cons_succ, List.getElem?_cons_zero, Bool.not_true, Bool.not_false, Bool.false_eq_true, Bool.true_eq_false, eq_self, true_implies, false_implies, true_and, and_true, decide_true, decide_false, Int.zero_add, N.R_sl, N.R_it, R_oNone, R_oSome, wipeN, N.R_lst, N.R_mkF, N.R_mkT, N.R_meth, N.v_addT, Ri_rng1, Ri_rng2, Ri_seq]
  refine ⟨by simp [lim], by trivial, ?_⟩
  simp only [List.zip_cons_cons, List.zip_nil_right, List.foldl_cons, List.foldl_nil, List.set_cons_succ, List.set_cons_zero, N.thn_nx]
  have f0 : fD n es p p = .int 0 := by
    show PyData.int (Pk.dv (nbP n es) p p : Nat) = _
    rw [(Pk.Dst.zero (nb := nbP n es)).dv]
    rfl
  have hs : Cell.dk [(Sum.inl (p : Int), D.d (.int 0))] = .dk (DZ (fun v => .d (fD n es p v)) [p]) := by
    unfold DZ
    rw [List.map_singleton]
    show _ = Cell.dk [(Sum.inl (p : Int), D.d (fD n es p p))]
    rw [f0]
  rw [hs, Rs_seq]
  refine Rs_while (fun m e s' => ∃ ks ring t o5 o6, n - ks.length + (if ring = [] then 0 else 1) = m ∧ Pk.BR (nbP n es) n p t ks ring ∧ ring.Nodup ∧ s' = s ++ [.dk (DZ (fun v => .d (fD n es p v)) ks)] ∧ e = [some (.d (rwL n es)), some (.d (.int (p : Nat))), some (.r s.length), some (.d (.list (nt ring))), some (.d (.int (t : Nat))), o5, o6]) (m := n - 1 + 1) (Nat.lt_of_le_of_lt (show n - 1 + 1 ≤ 100 by omega) (by decide)) ⟨[p], [p], 0, none, none, by simp, Pk.BR.start hp, by simp, rfl, rfl⟩ (fun m e s' hi => ?_)
  obtain ⟨ks, ring, t, o5, o6, hm, B, nd, rfl, rfl⟩ := hi
  have hk := nd_len B.nd B.lt
  have hr := nd_len nd (BR_ring B)
  have g0 : ∀ g : Sto, (s ++ [Cell.dk (DZ (fun v => .d (fD n es p v)) ks)] ++ g)[s.length]? = some (.dk (DZ (fun v => .d (fD n es p v)) ks)) := fun g => by simp
  have g0' : (s ++ [Cell.dk (DZ (fun v => .d (fD n es p v)) ks)])[s.length]? = some (.dk (DZ (fun v => .d (fD n es p v)) ks)) := by simp
  simp only [Rs_nil, R_call, R_cons, R_nil, R_Var, R_C, R_bin, R_cmp, R_tcmp, R_tOr, R_tAnd, R_tNot, R_tVal, R_tTrue, R_ite, R_eAnd, R_eOr, R_eNot, R_neg, R_tup, R_isi, R_some, Rc_some, N.v_eq, N.v_ne, N.v_lt, N.v_le, N.v_gt, N.v_ge, N.v_add, N.v_sub, N.v_iadd, N.v_xor, N.v_int, N.tru_b, N.pd_d, N.data_nil, N.data_cons, N.len_t, N.v_tupT, N.g_name, N.isNone_n, N.isNone_t, N.isNone_i, N.v_isN, N.v_isNn, N.v_eqB, N.v_neB, List.set_cons_succ, List.set_cons_zero, List.getElem?_cons_succ, List.getElem?_cons_zero, Bool.not_true, Bool.not_false, Bool.false_eq_true, Bool.true_eq_false, eq_self, true_implies, false_implies, true_and, and_true, decide_true, decide_false, Int.zero_add, N.R_sl, N.R_it, R_oNone, R_oSome, wipeN, N.R_lst, N.R_mkF, N.R_mkT, N.R_meth, N.v_addT, Ri_rng1, Ri_rng2, Ri_seq]
  refine ⟨by simp [lim], ?_⟩
  rw [ne_nilP _ (pks_nt _) (by have := depth_nt ring; simp only [PyData.depth] at this; omega), Rc_some]
  refine ⟨fun hb => ?_, fun hb => ?_⟩
  · have hq : ring = [] := by simpa [nt] using hb
    subst hq
    rw [N.thn_nx, Rs_seq, Rs_ret, R_call, R_cons]
    refine R_lcmG (List.range n) (fun k => .d (.int (k : Nat))) (stV n es p) (rngI (by omega) (m_of ?_)) (fun v hv acc => ?_) (by simp [lim]; omega) ?_
    · simp only [Rs_nil, R_call, R_cons, R_nil, R_Var, R_C, R_bin, R_cmp, R_tcmp, R_tOr, R_tAnd, R_tNot, R_tVal, R_tTrue, R_ite, R_eAnd, R_eOr, R_eNot, R_neg, R_tup, R_isi, R_some, Rc_some, N.v_eq, N.v_ne, N.v_lt, N.v_le, N.v_gt, N.v_ge, N.v_add, N.v_sub, N.v_iadd, N.v_xor, N.v_int, N.tru_b, N.pd_d, N.data_nil, N.data_cons, N.len_t, N.v_tupT, N.g_name, N.isNone_n, N.isNone_t, N.isNone_i, N.v_isN, N.v_isNn, N.v_eqB, N.v_neB, List.set_cons_succ, List.set_cons_zero, List.getElem?_cons_succ, List.getElem?_cons_zero, Bool.not_true, Bool.not_false, Bool.false_eq_true, Bool.true_eq_false, eq_self, true_implies, false_implies, true_and, and_true, decide_true, decide_false, Int.zero_add, N.R_sl, N.R_it, R_oNone, R_oSome, wipeN, N.R_lst, N.R_mkF, N.R_mkT, N.R_meth, N.v_addT, Ri_rng1, Ri_rng2, Ri_seq, len_l, List.length_map, rw_len]
    · rw [g_name, Rc_some]
      refine R_getDZ (v := v) (m_of ?_) (g0 _) (m_of ?_) ?_
      · simp only [Rs_nil, R_call, R_cons, R_nil, R_Var, R_C, R_bin, R_cmp, R_tcmp, R_tOr, R_tAnd, R_tNot, R_tVal, R_tTrue, R_ite, R_eAnd, R_eOr, R_eNot, R_neg, R_tup, R_isi, R_some, Rc_some, N.v_eq, N.v_ne, N.v_lt, N.v_le, N.v_gt, N.v_ge, N.v_add, N.v_sub, N.v_iadd, N.v_xor, N.v_int, N.tru_b, N.pd_d, N.data_nil, N.data_cons, N.len_t, N.v_tupT, N.g_name, N.isNone_n, N.isNone_t, N.isNone_i, N.v_isN, N.v_isNn, N.v_eqB, N.v_neB, List.set_cons_succ, List.set_cons_zero, List.getElem?_cons_succ, List.getElem?_cons_zero, Bool.not_true, Bool.not_false, Bool.false_eq_true, Bool.true_eq_false, eq_self, true_implies, false_implies, true_and, and_true, decide_true, decide_false, Int.zero_add, N.R_sl, N.R_it, R_oNone, R_oSome, wipeN, N.R_lst, N.R_mkF, N.R_mkT, N.R_meth, N.v_addT, Ri_rng1, Ri_rng2, Ri_seq]
      · simp only [Rs_nil, R_call, R_cons, R_nil, R_Var, R_C, R_bin, R_cmp, R_tcmp, R_tOr, R_tAnd, R_tNot, R_tVal, R_tTrue, R_ite, R_eAnd, R_eOr, R_eNot, R_neg, R_tup, R_isi, R_some, Rc_some, N.v_eq, N.v_ne, N.v_lt, N.v_le, N.v_gt, N.v_ge, N.v_add, N.v_sub, N.v_iadd, N.v_xor, N.v_int, N.tru_b, N.pd_d, N.data_nil, N.data_cons, N.len_t, N.v_tupT, N.g_name, N.isNone_n, N.isNone_t, N.isNone_i, N.v_isN, N.v_isNn, N.v_eqB, N.v_neB, List.set_cons_succ, List.set_cons_zero, List.getElem?_cons_succ, List.getElem?_cons_zero, Bool.not_true, Bool.not_false, Bool.false_eq_true, Bool.true_eq_false, eq_self, true_implies, false_implies, true_and, and_true, decide_true, decide_false, Int.zero_add, N.R_sl, N.R_it, R_oNone, R_oSome, wipeN, N.R_lst, N.R_mkF, N.R_mkT, N.R_meth, N.v_addT, Ri_rng1, Ri_rng2, Ri_seq]
      · refine ⟨?_, rfl⟩
        have := B.end_ v
        unfold stV
        by_cases h : v ∈ ks
        · rw [if_pos h, if_pos (this.mp h)]
        · rw [if_neg h, if_neg (fun h2 => h (this.mpr h2))]
    · simp only [R_nil, v_tupL, R_some, N.thn_rt, R_retd, trim_app]
      exact ⟨by trivial, by trivial⟩
  · have hne : ring ≠ [] := by simpa [nt] using hb
    rw [if_neg hne] at hm
    rw [Rs_seq, Rs_set]
    simp only [Rs_nil, R_call, R_cons, R_nil, R_Var, R_C, R_bin, R_cmp, R_tcmp, R_tOr, R_tAnd, R_tNot, R_tVal, R_tTrue, R_ite, R_eAnd, R_eOr, R_eNot, R_neg, R_tup, R_isi, R_some, Rc_some, N.v_eq, N.v_ne, N.v_lt, N.v_le, N.v_gt, N.v_ge, N.v_add, N.v_sub, N.v_iadd, N.v_xor, N.v_int, N.tru_b, N.pd_d, N.data_nil, N.data_cons, N.len_t, N.v_tupT, N.g_name, N.isNone_n, N.isNone_t, N.isNone_i, N.v_isN, N.v_isNn, N.v_eqB, N.v_neB, List.set_cons_succ, List.set_cons_zero, List.getElem?_cons_succ, List.getElem?_cons_zero, Bool.not_true, Bool.not_false, Bool.false_eq_true, Bool.true_eq_false, eq_self, true_implies, false_implies, true_and, and_true, decide_true, decide_false, Int.zero_add, N.R_sl, N.R_it, R_oNone, R_oSome, wipeN, N.R_lst, N.R_mkF, N.R_mkT, N.R_meth, N.v_addT, Ri_rng1, Ri_rng2, Ri_seq]
    rw [N.thn_nx, Rs_seq, Rs_set]
    have set_ : ∃ r : List Nat, r.Pairwise (· < ·) ∧ (∀ x, x ∈ r ↔ ∃ u ∈ ring, x ∈ nbP n es u) ∧ eSrtSetI false (eCall m__law_flat (aCons (eLc false [6] (iSeq (eVar 3)) (gName 6) tTrue (eLc false [5] (iSeq (eIt (eVar 0) (eVar 6))) (gName 5) tTrue (eVar 5))) aNil)) [some (.d (rwL n es)), some (.d (.int (p : Nat))), some (.r s.length), some (.d (.list (nt ring))), some (.d (.int ((t : Nat) + 1))), o5, o6] (s ++ [.dk (DZ (fun v => .d (fD n es p v)) ks)]) = some (.d (.list (nt r)), s ++ [.dk (DZ (fun v => .d (fD n es p v)) ks)]) := by
      have : R (eSrtSetI false (eCall m__law_flat (aCons (eLc false [6] (iSeq (eVar 3)) (gName 6) tTrue (eLc false [5] (iSeq (eIt (eVar 0) (eVar 6))) (gName 5) tTrue (eVar 5))) aNil)) [some (.d (rwL n es)), some (.d (.int (p : Nat))), some (.r s.length), some (.d (.list (nt ring))), some (.d (.int ((t : Nat) + 1))), o5, o6] (s ++ [.dk (DZ (fun v => .d (fD n es p v)) ks)])) fun d s1 => ∃ r : List Nat, r.Pairwise (· < ·) ∧ (∀ x, x ∈ r ↔ ∃ u ∈ ring, x ∈ nbP n es u) ∧ d = .d (.list (nt r)) ∧ s1 = s ++ [.dk (DZ (fun v => .d (fD n es p v)) ks)] := by
        refine R_srtSetN ?_
        rw [R_call, R_cons]
        have fl : (ring.flatMap (nbP n es)).length ≤ 49 := by
          refine Nat.le_trans (flatMap_le _ n ring fun u _ => nb_len n es u) (Nat.mul_le_mul (by omega : ring.length ≤ 7) (by omega : n ≤ 7))
        refine R_lcmG ring (fun k => .d (.int (k : Nat))) (fun u => .list (nt (nbP n es u))) (Ri_LLn (L := ring) rfl (.inr (.inl rfl))) (fun u hu acc => ?_) (by simp [lim]; omega) ?_
        · rw [g_name, Rc_some]
          have hu' := BR_ring B u hu
          refine R_lcmG (nbP n es u) (fun k => .d (.int (k : Nat))) (fun v => .int (v : Nat)) (Ri_LLn (m_of ?_) (.inr (.inl rfl))) (fun v hv acc2 => ?_) (by have := nb_len n es u; simp only [lim]; omega) ?_
          · simp only [Rs_nil, R_call, R_cons, R_nil, R_Var, R_C, R_bin, R_cmp, R_tcmp, R_tOr, R_tAnd, R_tNot, R_tVal, R_tTrue, R_ite, R_eAnd, R_eOr, R_eNot, R_neg, R_tup, R_isi, R_some, Rc_some, N.v_eq, N.v_ne, N.v_lt, N.v_le, N.v_gt, N.v_ge, N.v_add, N.v_sub, N.v_iadd, N.v_xor, N.v_int, N.tru_b, N.pd_d, N.data_nil, N.data_cons, N.len_t, N.v_tupT, N.g_name, N.isNone_n, N.isNone_t, N.isNone_i, N.v_isN, N.v_isNn, N.v_eqB, N.v_neB, List.set_cons_succ, List.set_cons_zero, List.getElem?_cons_succ, List.getElem?_cons_zero, Bool.not_true, Bool.not_false, Bool.false_eq_true, Bool.true_eq_false, eq_self, true_implies, false_implies, true_and, and_true, decide_true, decide_false, Int.zero_add, N.R_sl, N.R_it, R_oNone, R_oSome, wipeN, N.R_lst, N.R_mkF, N.R_mkT, N.R_meth, N.v_addT, Ri_rng1, Ri_rng2, Ri_seq, rowL_at hu']
          · simp only [Rs_nil, R_call, R_cons, R_nil, R_Var, R_C, R_bin, R_cmp, R_tcmp, R_tOr, R_tAnd, R_tNot, R_tVal, R_tTrue, R_ite, R_eAnd, R_eOr, R_eNot, R_neg, R_tup, R_isi, R_some, Rc_some, N.v_eq, N.v_ne, N.v_lt, N.v_le, N.v_gt, N.v_ge, N.v_add, N.v_sub, N.v_iadd, N.v_xor, N.v_int, N.tru_b, N.pd_d, N.data_nil, N.data_cons, N.len_t, N.v_tupT, N.g_name, N.isNone_n, N.isNone_t, N.isNone_i, N.v_isN, N.v_isNn, N.v_eqB, N.v_neB, List.set_cons_succ, List.set_cons_zero, List.getElem?_cons_succ, List.getElem?_cons_zero, Bool.not_true, Bool.not_false, Bool.false_eq_true, Bool.true_eq_false, eq_self, true_implies, false_implies, true_and, and_true, decide_true, decide_false, Int.zero_add, N.R_sl, N.R_it, R_oNone, R_oSome, wipeN, N.R_lst, N.R_mkF, N.R_mkT, N.R_meth, N.v_addT, Ri_rng1, Ri_rng2, Ri_seq]
          · exact ⟨rfl, rfl⟩
        · have e1 : (ring.map fun u => PyData.list (nt (nbP n es u))) = (ring.map fun u => nt (nbP n es u)).map .list := by
            rw [List.map_map]
            rfl
          have e2 : (ring.map fun u => nt (nbP n es u)).flatten = nt (ring.flatMap (nbP n es)) := by
            unfold nt
            rw [List.map_flatMap, List.flatMap_def]
          rw [R_nil, e1, flat_okP (by rw [e2]; simp only [nt, List.length_map]; omega), e2, R_some]
          refine ⟨_, rfl, by omega, fun r _ h1 h2 => ⟨r, h2, fun x => ?_, rfl, rfl⟩⟩
          rw [h1, List.mem_flatMap]
      obtain ⟨_, _, h1, r, h2, h3, rfl, rfl⟩ := this
      exact ⟨r, h2, h3, h1⟩
    obtain ⟨r, r1, r2, r3⟩ := set_
    have rm : ∀ x, x ∈ r.filter (fun x => !decide (x ∈ ks)) ↔ (∃ u ∈ ring, x ∈ nbP n es u) ∧ x ∉ ks := fun x => by
      rw [List.mem_filter, r2]
      simp
    have rn : (r.filter fun x => !decide (x ∈ ks)).Nodup := (r1.filter _).imp fun h => Nat.ne_of_lt h
    have B2 := B.next (fun u _ w hw => nb_ok hw) rn rm
    have hrl : r.length ≤ n := nd_len (r1.imp fun h => Nat.ne_of_lt h) fun x hx => by
      obtain ⟨u, _, h⟩ := (r2 x).mp hx
      exact nb_ok h
    refine R_lcG r (fun k => .d (.int (k : Nat))) (fun v => .int (v : Nat)) (fun x => !decide (x ∈ ks)) (Ri_LLn r3 (.inr (.inl rfl))) (fun x hx acc => ?_) (by simp only [lim]; omega) ?_
    · simp only [Rs_nil, R_call, R_cons, R_nil, R_Var, R_C, R_bin, R_cmp, R_tcmp, R_tOr, R_tAnd, R_tNot, R_tVal, R_tTrue, R_ite, R_eAnd, R_eOr, R_eNot, R_neg, R_tup, R_isi, R_some, Rc_some, N.v_eq, N.v_ne, N.v_lt, N.v_le, N.v_gt, N.v_ge, N.v_add, N.v_sub, N.v_iadd, N.v_xor, N.v_int, N.tru_b, N.pd_d, N.data_nil, N.data_cons, N.len_t, N.v_tupT, N.g_name, N.isNone_n, N.isNone_t, N.isNone_i, N.v_isN, N.v_isNn, N.v_eqB, N.v_neB, List.set_cons_succ, List.set_cons_zero, List.getElem?_cons_succ, List.getElem?_cons_zero, Bool.not_true, Bool.not_false, Bool.false_eq_true, Bool.true_eq_false, eq_self, true_implies, false_implies, true_and, and_true, decide_true, decide_false, Int.zero_add, N.R_sl, N.R_it, R_oNone, R_oSome, wipeN, N.R_lst, N.R_mkF, N.R_mkT, N.R_meth, N.v_addT, Ri_rng1, Ri_rng2, Ri_seq, in_DZ (g0 _), if_true]
      exact fun _ => by trivial
    generalize r.filter (fun x => !decide (x ∈ ks)) = r2 at rm rn B2 ⊢
    rw [show r2.map (fun v => PyData.int (v : Nat)) = nt r2 from rfl]
    simp only [List.set_cons_succ, List.set_cons_zero]
    have hk2 := nd_len B2.nd B2.lt
    rw [List.length_append] at hk2
    rw [N.thn_nx, Rs_seq, Rs_expr]
    refine R_updDZ (j := s.length) (f := fD n es p) (ks := ks) (l := r2) (m_of ?_) g0' ?_ B2.nd (by simp only [lim]; omega) ?_
    · simp only [Rs_nil, R_call, R_cons, R_nil, R_Var, R_C, R_bin, R_cmp, R_tcmp, R_tOr, R_tAnd, R_tNot, R_tVal, R_tTrue, R_ite, R_eAnd, R_eOr, R_eNot, R_neg, R_tup, R_isi, R_some, Rc_some, N.v_eq, N.v_ne, N.v_lt, N.v_le, N.v_gt, N.v_ge, N.v_add, N.v_sub, N.v_iadd, N.v_xor, N.v_int, N.tru_b, N.pd_d, N.data_nil, N.data_cons, N.len_t, N.v_tupT, N.g_name, N.isNone_n, N.isNone_t, N.isNone_i, N.v_isN, N.v_isNn, N.v_eqB, N.v_neB, List.set_cons_succ, List.set_cons_zero, List.getElem?_cons_succ, List.getElem?_cons_zero, Bool.not_true, Bool.not_false, Bool.false_eq_true, Bool.true_eq_false, eq_self, true_implies, false_implies, true_and, and_true, decide_true, decide_false, Int.zero_add, N.R_sl, N.R_it, R_oNone, R_oSome, wipeN, N.R_lst, N.R_mkF, N.R_mkT, N.R_meth, N.v_addT, Ri_rng1, Ri_rng2, Ri_seq]
    · simp only [R_cons, R_nil]
      refine R_lcmG r2 (fun k => .d (.int (k : Nat))) (fun v => .tuple [.int (v : Nat), .int ((t : Nat) + 1)]) (Ri_LLn (L := r2) rfl (.inr (.inl rfl))) (fun v hv acc => ?_) (by simp only [lim]; omega) ?_
      · simp only [Rs_nil, R_call, R_cons, R_nil, R_Var, R_C, R_bin, R_cmp, R_tcmp, R_tOr, R_tAnd, R_tNot, R_tVal, R_tTrue, R_ite, R_eAnd, R_eOr, R_eNot, R_neg, R_tup, R_isi, R_some, Rc_some, N.v_eq, N.v_ne, N.v_lt, N.v_le, N.v_gt, N.v_ge, N.v_add, N.v_sub, N.v_iadd, N.v_xor, N.v_int, N.tru_b, N.pd_d, N.data_nil, N.data_cons, N.len_t, N.v_tupT, N.g_name, N.isNone_n, N.isNone_t, N.isNone_i, N.v_isN, N.v_isNn, N.v_eqB, N.v_neB, List.set_cons_succ, List.set_cons_zero, List.getElem?_cons_succ, List.getElem?_cons_zero, Bool.not_true, Bool.not_false, Bool.false_eq_true, Bool.true_eq_false, eq_self, true_implies, false_implies, true_and, and_true, decide_true, decide_false, Int.zero_add, N.R_sl, N.R_it, R_oNone, R_oSome, wipeN, N.R_lst, N.R_mkF, N.R_mkT, N.R_meth, N.v_addT, Ri_rng1, Ri_rng2, Ri_seq]
        simp [lim]
      · refine ⟨?_, rfl⟩
        congr 3
        refine List.map_congr_left fun v hv => ?_
        unfold fD
        rw [B2.val hv]
        rfl
    · rw [N.set_last, N.thn_nx, Rs_nil, aft_nx, trimE_len (by simp)]
      refine ⟨n - (ks ++ r2).length + (if r2 = [] then 0 else 1), ?_, ks ++ r2, r2, t + 1, o5, o6, rfl, B2, rn, rfl, by simp [wipeN]⟩
      rw [List.length_append]
      by_cases e : r2 = []
      · subst e; simp; omega
      · rw [if_neg e]
        have := List.length_pos_iff.mpr e
        omega
end
end T72

namespace T72
open PySem L2 PyProof.Rows N
section
variable {n : Nat} {es : List (Nat × Nat)} {L : List Nat} {s : Sto}
theorem leftX_bad : ∀ {xs : List PyData} {L : List Nat}, (∃ x ∈ xs, dP n x = none) → leftX n es xs L = none
  | [], L, h => by obtain ⟨x, hx, _⟩ := h; cases hx
  | x :: xs, L, h => by
    unfold leftX
    rcases hd : dP n x with _ | p
    · rfl
    · simp only []
      split
      · obtain ⟨y, hy, e⟩ := h
        rcases List.mem_cons.mp hy with rfl | hy
        · rw [hd] at e; cases e
        · exact leftX_bad ⟨y, hy, e⟩
      · rfl
def isPr : PyData → Bool
  | .tuple xs => decide (xs.length = 2)
  | _ => false
theorem isPr_two {x : PyData} (h : isPr x = true) : ∃ a b, x = .tuple [a, b] := by
  cases x with
  | tuple xs =>
    have h : xs.length = 2 := by simpa [isPr] using h
    match xs, h with
    | [a, b], _ => exact ⟨a, b, rfl⟩
  | _ => cases h
theorem isPr_not {x : PyData} (h : isPr x = false) : dP n x = none := by
  cases x with
  | tuple xs => exact dP_len (by simpa [isPr] using h)
  | _ => rfl
def isI (x : PyData) : Bool := TyT.int.of x && !TyT.bl.of x
theorem isI_int {x : PyData} (h : isI x = true) : ∃ i, x = .int i := by
  cases x <;> first | exact ⟨_, rfl⟩ | cases h
theorem mem_ntI {L : List Nat} {i : Int} : PyData.int i ∈ nt L ↔ ∃ k : Nat, k ∈ L ∧ i = (k : Nat) := by
  unfold nt
  rw [List.mem_map]
  constructor
  · rintro ⟨k, h, e⟩
    injection e with e
    exact ⟨k, h, e.symm⟩
  · rintro ⟨k, h, rfl⟩
    exact ⟨k, h, rfl⟩
theorem in_LLi {neg : Bool} {d : D} (l : LL s d (nt L)) (i : Int) : cIn neg s (.d (.int i)) d = some (if neg then !decide (PyData.int i ∈ nt L) else decide (PyData.int i ∈ nt L)) := in_LL l (pks_nt L) rfl (by rw [show PyData.depth (.int i) = 0 from rfl]; omega)
theorem lawleft_ok (G : Pkr n es) (h0 : 0 < n) (hn : n ≤ 100) {x : PyData} (hlen : ∀ xs, x = .tuple xs → xs.length ≤ lim) : m__law_left s [.d (parD n es), .d x] = some (.d (lbV n es x), s) := by
  apply R.eq
  unfold m__law_left b__law_left
  simp only [R_fn]
  refine ⟨rfl, ?_⟩
  simp only [List.map_cons, List.map_nil, List.cons_append, List.nil_append, List.length_cons, List.length_nil, List.replicate, Nat.reduceSub, Nat.reduceAdd]
  rw [Rs_seq, Rs_if]
  rcases tup_or x with ⟨xs, rfl⟩ | hx
  case inr =>
    simp only [N.thn_nx, N.thn_rt, Rs_seq, Rs_set, Rs_ret, Rs_expr, Rs_nil, Rs_if, Rs_asg, Rs_aug, R_call, R_cons, R_nil, R_Var, R_C, R_bin, R_cmp, R_tcmp, R_tOr, R_tAnd, R_tNot, R_tVal, R_tTrue, R_ite, R_eAnd, R_eOr, R_eNot, R_neg, R_tup, R_isi, R_some, Rc_some, N.v_eq, N.v_ne, N.v_lt, N.v_le, N.v_gt, N.v_ge, N.v_add, N.v_sub, N.v_iadd, N.v_xor, N.v_int, N.tru_b, N.pd_d, N.data_nil, N.data_cons, N.len_t, N.v_tupT, N.g_name, N.isNone_n, N.isNone_t, N.isNone_i, N.v_isN, N.v_isNn, N.v_eqB, N.v_neB, List.set_cons_succ, List.set_cons_zero, List.getElem?_cons_succ, List.getElem?_cons_zero, Bool.not_true, Bool.not_false, Bool.false_eq_true, Bool.true_eq_false, eq_self, true_implies, false_implies, true_and, and_true, decide_true, decide_false, Int.zero_add, N.R_sl, N.R_it, R_oNone, R_oSome, wipeN, N.R_lst, N.R_mkF, N.R_mkT, N.R_meth, N.v_addT, Ri_rng1, Ri_rng2, Ri_seq, hx, R_retd, trim_self]
    cases x <;> first | rfl | cases hx
  have hxl := hlen xs rfl
  simp only [Rs_nil, R_call, R_cons, R_nil, R_Var, R_C, R_bin, R_cmp, R_tcmp, R_tOr, R_tAnd, R_tNot, R_tVal, R_tTrue, R_ite, R_eAnd, R_eOr, R_eNot, R_neg, R_tup, R_isi, R_some, Rc_some, N.v_eq, N.v_ne, N.v_lt, N.v_le, N.v_gt, N.v_ge, N.v_add, N.v_sub, N.v_iadd, N.v_xor, N.v_int, N.tru_b, N.pd_d, N.data_nil, N.data_cons, N.len_t, N.v_tupT, N.g_name, N.isNone_n, N.isNone_t, N.isNone_i, N.v_isN, N.v_isNn, N.v_eqB, N.v_neB, List.set_cons_succ, List.set_cons_zero, List.getElem?_cons_succ, List.getElem?_cons_zero, Bool.not_true, Bool.not_false, Bool.false_eq_true, Bool.true_eq_false, eq_self, true_implies, false_implies, true_and, and_true, decide_true, decide_false, Int.zero_add, N.R_sl, N.R_it, R_oNone, R_oSome, wipeN, N.R_lst, N.R_mkF, N.R_mkT, N.R_meth, N.v_addT, Ri_rng1, Ri_rng2, Ri_seq, show TyT.tup.of (.tuple xs) = true from rfl]
  refine R_lcmG xs .d (fun x => .bool (isPr x)) ?_ (fun x hx acc => ?_) hxl ?_
  · exact ⟨_, _, _, rfl, rfl, CkA.none _, rfl⟩
  · simp only [Rs_nil, R_call, R_cons, R_nil, R_Var, R_C, R_bin, R_cmp, R_tcmp, R_tOr, R_tAnd, R_tNot, R_tVal, R_tTrue, R_ite, R_eAnd, R_eOr, R_eNot, R_neg, R_tup, R_isi, R_some, Rc_some, N.v_eq, N.v_ne, N.v_lt, N.v_le, N.v_gt, N.v_ge, N.v_add, N.v_sub, N.v_iadd, N.v_xor, N.v_int, N.tru_b, N.pd_d, N.data_nil, N.data_cons, N.len_t, N.v_tupT, N.g_name, N.isNone_n, N.isNone_t, N.isNone_i, N.v_isN, N.v_isNn, N.v_eqB, N.v_neB, List.set_cons_succ, List.set_cons_zero, List.getElem?_cons_succ, List.getElem?_cons_zero, Bool.not_true, Bool.not_false, Bool.false_eq_true, Bool.true_eq_false, eq_self, true_implies, false_implies, true_and, and_true, decide_true, decide_false, Int.zero_add, N.R_sl, N.R_it, R_oNone, R_oSome, wipeN, N.R_lst, N.R_mkF, N.R_mkT, N.R_meth, N.v_addT, Ri_rng1, Ri_rng2, Ri_seq]
    cases x with
    | tuple ys =>
      refine ⟨fun _ => ?_, fun h => (by cases h)⟩
      simp only [Rs_nil, R_call, R_cons, R_nil, R_Var, R_C, R_bin, R_cmp, R_tcmp, R_tOr, R_tAnd, R_tNot, R_tVal, R_tTrue, R_ite, R_eAnd, R_eOr, R_eNot, R_neg, R_tup, R_isi, R_some, Rc_some, N.v_eq, N.v_ne, N.v_lt, N.v_le, N.v_gt, N.v_ge, N.v_add, N.v_sub, N.v_iadd, N.v_xor, N.v_int, N.tru_b, N.pd_d, N.data_nil, N.data_cons, N.len_t, N.v_tupT, N.g_name, N.isNone_n, N.isNone_t, N.isNone_i, N.v_isN, N.v_isNn, N.v_eqB, N.v_neB, List.set_cons_succ, List.set_cons_zero, List.getElem?_cons_succ, List.getElem?_cons_zero, Bool.not_true, Bool.not_false, Bool.false_eq_true, Bool.true_eq_false, eq_self, true_implies, false_implies, true_and, and_true, decide_true, decide_false, Int.zero_add, N.R_sl, N.R_it, R_oNone, R_oSome, wipeN, N.R_lst, N.R_mkF, N.R_mkT, N.R_meth, N.v_addT, Ri_rng1, Ri_rng2, Ri_seq]
      rw [show decide ((ys.length : Int) = 2) = decide (ys.length = 2) from decide_eq_decide.mpr (by omega)]
      rfl
    | _ => exact ⟨fun h => (by cases h), fun _ => rfl⟩
  rw [all_map, R_some, tru_b, Rc_some]
  refine ⟨fun hb => ?_, fun hb => ?_⟩
  · have hb : ∃ x ∈ xs, isPr x = false := by simpa using hb
    obtain ⟨x, hx, e⟩ := hb
    simp only [N.thn_nx, N.thn_rt, Rs_seq, Rs_set, Rs_ret, Rs_expr, Rs_nil, Rs_if, Rs_asg, Rs_aug, R_call, R_cons, R_nil, R_Var, R_C, R_bin, R_cmp, R_tcmp, R_tOr, R_tAnd, R_tNot, R_tVal, R_tTrue, R_ite, R_eAnd, R_eOr, R_eNot, R_neg, R_tup, R_isi, R_some, Rc_some, N.v_eq, N.v_ne, N.v_lt, N.v_le, N.v_gt, N.v_ge, N.v_add, N.v_sub, N.v_iadd, N.v_xor, N.v_int, N.tru_b, N.pd_d, N.data_nil, N.data_cons, N.len_t, N.v_tupT, N.g_name, N.isNone_n, N.isNone_t, N.isNone_i, N.v_isN, N.v_isNn, N.v_eqB, N.v_neB, List.set_cons_succ, List.set_cons_zero, List.getElem?_cons_succ, List.getElem?_cons_zero, Bool.not_true, Bool.not_false, Bool.false_eq_true, Bool.true_eq_false, eq_self, true_implies, false_implies, true_and, and_true, decide_true, decide_false, Int.zero_add, N.R_sl, N.R_it, R_oNone, R_oSome, wipeN, N.R_lst, N.R_mkF, N.R_mkT, N.R_meth, N.v_addT, Ri_rng1, Ri_rng2, Ri_seq, R_retd, trim_self]
    unfold lbV lbD
    simp only [leftX_bad (L := List.range n) (es := es) ⟨x, hx, isPr_not (n := n) e⟩]
  have hall : ∀ x ∈ xs, isPr x = true := by simpa using hb
  rw [N.thn_nx, Rs_seq, Rs_par, R_cons]
  simp only [Rs_nil, R_call, R_cons, R_nil, R_Var, R_C, R_bin, R_cmp, R_tcmp, R_tOr, R_tAnd, R_tNot, R_tVal, R_tTrue, R_ite, R_eAnd, R_eOr, R_eNot, R_neg, R_tup, R_isi, R_some, Rc_some, N.v_eq, N.v_ne, N.v_lt, N.v_le, N.v_gt, N.v_ge, N.v_add, N.v_sub, N.v_iadd, N.v_xor, N.v_int, N.tru_b, N.pd_d, N.data_nil, N.data_cons, N.len_t, N.v_tupT, N.g_name, N.isNone_n, N.isNone_t, N.isNone_i, N.v_isN, N.v_isNn, N.v_eqB, N.v_neB, List.set_cons_succ, List.set_cons_zero, List.getElem?_cons_succ, List.getElem?_cons_zero, Bool.not_true, Bool.not_false, Bool.false_eq_true, Bool.true_eq_false, eq_self, true_implies, false_implies, true_and, and_true, decide_true, decide_false, Int.zero_add, N.R_sl, N.R_it, R_oNone, R_oSome, wipeN, N.R_lst, N.R_mkF, N.R_mkT, N.R_meth, N.v_addT, Ri_rng1, Ri_rng2, Ri_seq, lawnear_ok G hn]
  refine R_lstRx (i := n) ?_ (by omega) ?_
  · simp only [Rs_nil, R_call, R_cons, R_nil, R_Var, R_C, R_bin, R_cmp, R_tcmp, R_tOr, R_tAnd, R_tNot, R_tVal, R_tTrue, R_ite, R_eAnd, R_eOr, R_eNot, R_neg, R_tup, R_isi, R_some, Rc_some, N.v_eq, N.v_ne, N.v_lt, N.v_le, N.v_gt, N.v_ge, N.v_add, N.v_sub, N.v_iadd, N.v_xor, N.v_int, N.tru_b, N.pd_d, N.data_nil, N.data_cons, N.len_t, N.v_tupT, N.g_name, N.isNone_n, N.isNone_t, N.isNone_i, N.v_isN, N.v_isNn, N.v_eqB, N.v_neB, List.set_cons_succ, List.set_cons_zero, List.getElem?_cons_succ, List.getElem?_cons_zero, Bool.not_true, Bool.not_false, Bool.false_eq_true, Bool.true_eq_false, eq_self, true_implies, false_implies, true_and, and_true, decide_true, decide_false, Int.zero_add, N.R_sl, N.R_it, R_oNone, R_oSome, wipeN, N.R_lst, N.R_mkF, N.R_mkT, N.R_meth, N.v_addT, Ri_rng1, Ri_rng2, Ri_seq, fst_par]
  simp only [Rs_nil, R_call, R_cons, R_nil, R_Var, R_C, R_bin, R_cmp, R_tcmp, R_tOr, R_tAnd, R_tNot, R_tVal, R_tTrue, R_ite, R_eAnd, R_eOr, R_eNot, R_neg, R_tup, R_isi, R_some, Rc_some, N.v_eq, N.v_ne, N.v_lt, N.v_le, N.v_gt, N.v_ge, N.v_add, N.v_sub, N.v_iadd, N.v_xor, N.v_int, N.tru_b, N.pd_d, N.data_nil, N.data_cons, N.len_t, N.v_tupT, N.g_name, N.isNone_n, N.isNone_t, N.isNone_i, N.v_isN, N.v_isNn, N.v_eqB, N.v_neB, List.set_cons_succ, List.set_cons_zero, List.getElem?_cons_succ, List.getElem?_cons_zero, Bool.not_true, Bool.not_false, Bool.false_eq_true, Bool.true_eq_false, eq_self, true_implies, false_implies, true_and, and_true, decide_true, decide_false, Int.zero_add, N.R_sl, N.R_it, R_oNone, R_oSome, wipeN, N.R_lst, N.R_mkF, N.R_mkT, N.R_meth, N.v_addT, Ri_rng1, Ri_rng2, Ri_seq]
  refine ⟨by trivial, ?_⟩
  simp only [List.zip_cons_cons, List.zip_nil_right, List.foldl_cons, List.foldl_nil, List.set_cons_succ, List.set_cons_zero, N.thn_nx]
  rw [Rs_seq]
  have lbn : ∀ {ys zs : List PyData}, xs = ys ++ zs → leftX n es ys (List.range n) = none → lbV n es (.tuple xs) = .none := by
    rintro ys zs rfl h
    unfold lbV lbD
    simp only [leftX_app, h, Option.bind_none]
  refine Rs_for xs .d (fun k e s' => ∃ M o1 o5 o6 o7, leftX n es (xs.take k) (List.range n) = some M ∧ LOk n es M ∧ M.length ≤ n ∧ s' = s ++ [.lst ((nt M).map .d)] ∧ e = [some (.d (parD n es)), some (.d (.tuple xs)), o1, some (.d (rwL n es)), some (.r s.length), o5, o6, o7]) ?_ (fun k x e s' hk hq => ?_) (fun e s' hq => ?_)
  · exact ⟨_, _, _, rfl, rfl, rfl, List.range n, none, none, none, none, rfl, LOk.start h0, by simp, rfl, rfl⟩
  · obtain ⟨M, o1, o5, o6, o7, h1, l, hml, rfl, rfl⟩ := hq
    obtain ⟨hkl, hkx⟩ := List.getElem?_eq_some_iff.mp hk
    have sp : xs = (xs.take k ++ [x]) ++ xs.drop (k + 1) := by
      rw [← hkx, List.take_append_getElem hkl, List.take_append_drop]
    have tk : xs.take (k + 1) = xs.take k ++ [x] := by
      rw [List.take_add_one, hk]
      rfl
    have bad : dP n x = none → lbV n es (.tuple xs) = .none := fun hd => lbn sp (by
      rw [leftX_app, h1, Option.bind_some]
      unfold leftX
      rw [hd])
    have g0 : (s ++ [Cell.lst ((nt M).map D.d)])[s.length]? = some (.lst ((nt M).map D.d)) := by simp
    have ll : LL (s ++ [Cell.lst ((nt M).map D.d)]) (.r s.length) (nt M) := .inr (.inr ⟨_, rfl, g0⟩)
    have retn : ∀ {s0 : Sto}, lbV n es (.tuple xs) = .none → R (ret false s (.d .none) (s ++ s0)) fun y s' => y = .d (lbV n es (.tuple xs)) ∧ s' = s := fun {s0} h => by
      rw [R_retd, trim_app, h]
      exact ⟨rfl, rfl⟩
    obtain ⟨a, b, rfl⟩ := isPr_two (hall x (List.mem_of_getElem? hk))
    simp only [N.g_tup, N.gs_cons, N.gs_nil, N.gs_len, List.length_cons, List.length_nil, if_true, Nat.reduceAdd, g_name, List.set_cons_succ, List.set_cons_zero, Rc_some]
    rw [Rs_seq, Rs_if]
    simp only [Rs_nil, R_call, R_cons, R_nil, R_Var, R_C, R_bin, R_cmp, R_tcmp, R_tOr, R_tAnd, R_tNot, R_tVal, R_tTrue, R_ite, R_eAnd, R_eOr, R_eNot, R_neg, R_tup, R_isi, R_some, Rc_some, N.v_eq, N.v_ne, N.v_lt, N.v_le, N.v_gt, N.v_ge, N.v_add, N.v_sub, N.v_iadd, N.v_xor, N.v_int, N.tru_b, N.pd_d, N.data_nil, N.data_cons, N.len_t, N.v_tupT, N.g_name, N.isNone_n, N.isNone_t, N.isNone_i, N.v_isN, N.v_isNn, N.v_eqB, N.v_neB, List.set_cons_succ, List.set_cons_zero, List.getElem?_cons_succ, List.getElem?_cons_zero, Bool.not_true, Bool.not_false, Bool.false_eq_true, Bool.true_eq_false, eq_self, true_implies, false_implies, true_and, and_true, decide_true, decide_false, Int.zero_add, N.R_sl, N.R_it, R_oNone, R_oSome, wipeN, N.R_lst, N.R_mkF, N.R_mkT, N.R_meth, N.v_addT, Ri_rng1, Ri_rng2, Ri_seq]
    refine R_lcmG [a, b] .d (fun x => .bool (isI x)) ?_ (fun x hx acc => ?_) (by simp [lim]) ?_
    · exact ⟨_, _, _, rfl, rfl, CkA.none _, rfl⟩
    · simp only [Rs_nil, R_call, R_cons, R_nil, R_Var, R_C, R_bin, R_cmp, R_tcmp, R_tOr, R_tAnd, R_tNot, R_tVal, R_tTrue, R_ite, R_eAnd, R_eOr, R_eNot, R_neg, R_tup, R_isi, R_some, Rc_some, N.v_eq, N.v_ne, N.v_lt, N.v_le, N.v_gt, N.v_ge, N.v_add, N.v_sub, N.v_iadd, N.v_xor, N.v_int, N.tru_b, N.pd_d, N.data_nil, N.data_cons, N.len_t, N.v_tupT, N.g_name, N.isNone_n, N.isNone_t, N.isNone_i, N.v_isN, N.v_isNn, N.v_eqB, N.v_neB, List.set_cons_succ, List.set_cons_zero, List.getElem?_cons_succ, List.getElem?_cons_zero, Bool.not_true, Bool.not_false, Bool.false_eq_true, Bool.true_eq_false, eq_self, true_implies, false_implies, true_and, and_true, decide_true, decide_false, Int.zero_add, N.R_sl, N.R_it, R_oNone, R_oSome, wipeN, N.R_lst, N.R_mkF, N.R_mkT, N.R_meth, N.v_addT, Ri_rng1, Ri_rng2, Ri_seq]
      unfold isI
      cases h : TyT.int.of x
      · exact ⟨fun h => (by cases h), fun _ => rfl⟩
      · simp
    rw [all_map, R_some, tru_b, Rc_some]
    refine ⟨fun hb => ?_, fun hb => ?_⟩
    · have hb : isI a = true ∧ isI b = true := by simpa using hb
      obtain ⟨i, rfl⟩ := isI_int hb.1
      obtain ⟨j, rfl⟩ := isI_int hb.2
      have badi : (∀ k ∈ M, i ≠ (k : Nat)) → lbV n es (.tuple xs) = .none := fun h => by
        rcases hd : dP n (.tuple [.int i, .int j]) with _ | p
        · exact bad hd
        · obtain ⟨e1, e2, e3⟩ := dP_iff.mp hd
          cases e1
          exact lbn sp (by
            rw [leftX_app, h1, Option.bind_some]
            unfold leftX
            rw [hd]
            simp only [if_neg (show ¬ (p.1 ∈ M ∧ p.2 ∈ M ∧ crnB n es M p.1 p.2 = true) from fun hc => h _ hc.1 rfl)])
      have badj : (∀ k ∈ M, j ≠ (k : Nat)) → lbV n es (.tuple xs) = .none := fun h => by
        rcases hd : dP n (.tuple [.int i, .int j]) with _ | p
        · exact bad hd
        · obtain ⟨e1, e2, e3⟩ := dP_iff.mp hd
          cases e1
          exact lbn sp (by
            rw [leftX_app, h1, Option.bind_some]
            unfold leftX
            rw [hd]
            simp only [if_neg (show ¬ (p.1 ∈ M ∧ p.2 ∈ M ∧ crnB n es M p.1 p.2 = true) from fun hc => h _ hc.2.1 rfl)])
      simp only [in_LLi ll, if_true, Rc_some]
      refine ⟨fun h2 => ?_, fun h2 => ?_⟩
      · obtain ⟨u, hu, rfl⟩ := mem_ntI.mp (show PyData.int i ∈ nt M by simpa using h2)
        refine ⟨fun h3 => ?_, fun h3 => ?_⟩
        · obtain ⟨v, hv, rfl⟩ := mem_ntI.mp (show PyData.int j ∈ nt M by simpa using h3)
          rw [lawcorner_ok ll (l.lt u hu) (l.lt v hv) hn, R_some, tru_b, Rc_some, crnL_eq l.lt hu (l.lt v hv)]
          have hd : dP n (.tuple [.int (u : Nat), .int (v : Nat)]) = some (u, v) := dP_pr (p := (u, v)) (l.lt u hu) (l.lt v hv)
          refine ⟨fun h4 => ?_, fun h4 => ?_⟩
          · simp only [N.thn_nx, N.thn_rt, Rs_seq, Rs_set, Rs_ret, Rs_expr, Rs_nil, Rs_if, Rs_asg, Rs_aug, R_call, R_cons, R_nil, R_Var, R_C, R_bin, R_cmp, R_tcmp, R_tOr, R_tAnd, R_tNot, R_tVal, R_tTrue, R_ite, R_eAnd, R_eOr, R_eNot, R_neg, R_tup, R_isi, R_some, Rc_some, N.v_eq, N.v_ne, N.v_lt, N.v_le, N.v_gt, N.v_ge, N.v_add, N.v_sub, N.v_iadd, N.v_xor, N.v_int, N.tru_b, N.pd_d, N.data_nil, N.data_cons, N.len_t, N.v_tupT, N.g_name, N.isNone_n, N.isNone_t, N.isNone_i, N.v_isN, N.v_isNn, N.v_eqB, N.v_neB, List.set_cons_succ, List.set_cons_zero, List.getElem?_cons_succ, List.getElem?_cons_zero, Bool.not_true, Bool.not_false, Bool.false_eq_true, Bool.true_eq_false, eq_self, true_implies, false_implies, true_and, and_true, decide_true, decide_false, Int.zero_add, N.R_sl, N.R_it, R_oNone, R_oSome, wipeN, N.R_lst, N.R_mkF, N.R_mkT, N.R_meth, N.v_addT, Ri_rng1, Ri_rng2, Ri_seq, aft_rt]
            refine retn (lbn sp (by
              rw [leftX_app, h1, Option.bind_some]
              unfold leftX
              rw [hd]
              simp only [if_neg (show ¬ (u ∈ M ∧ v ∈ M ∧ crnB n es M u v = true) from fun hc => by simp [hc.2.2] at h4)]))
          · have h4 : crnB n es M u v = true := by simpa using h4
            simp only [N.thn_nx, N.thn_rt, Rs_seq, Rs_set, Rs_ret, Rs_expr, Rs_nil, Rs_if, Rs_asg, Rs_aug, R_call, R_cons, R_nil, R_Var, R_C, R_bin, R_cmp, R_tcmp, R_tOr, R_tAnd, R_tNot, R_tVal, R_tTrue, R_ite, R_eAnd, R_eOr, R_eNot, R_neg, R_tup, R_isi, R_some, Rc_some, N.v_eq, N.v_ne, N.v_lt, N.v_le, N.v_gt, N.v_ge, N.v_add, N.v_sub, N.v_iadd, N.v_xor, N.v_int, N.tru_b, N.pd_d, N.data_nil, N.data_cons, N.len_t, N.v_tupT, N.g_name, N.isNone_n, N.isNone_t, N.isNone_i, N.v_isN, N.v_isNn, N.v_eqB, N.v_neB, List.set_cons_succ, List.set_cons_zero, List.getElem?_cons_succ, List.getElem?_cons_zero, Bool.not_true, Bool.not_false, Bool.false_eq_true, Bool.true_eq_false, eq_self, true_implies, false_implies, true_and, and_true, decide_true, decide_false, Int.zero_add, N.R_sl, N.R_it, R_oNone, R_oSome, wipeN, N.R_lst, N.R_mkF, N.R_mkT, N.R_meth, N.v_addT, Ri_rng1, Ri_rng2, Ri_seq, g0]
            refine v_rem hu ?_
            rw [N.set_last, aft_nx, trimE_len (by simp)]
            refine ⟨M.erase u, o1, none, none, o7, ?_, l.step hu hv h4, ?_, rfl, by simp [wipeN]⟩
            · rw [tk]
              exact leftX_one (p := (u, v)) l h1 (mem_cs.mpr ⟨hu, hv, h4⟩)
            · have := List.length_erase_of_mem hu
              omega
        · simp only [N.thn_nx, N.thn_rt, Rs_seq, Rs_set, Rs_ret, Rs_expr, Rs_nil, Rs_if, Rs_asg, Rs_aug, R_call, R_cons, R_nil, R_Var, R_C, R_bin, R_cmp, R_tcmp, R_tOr, R_tAnd, R_tNot, R_tVal, R_tTrue, R_ite, R_eAnd, R_eOr, R_eNot, R_neg, R_tup, R_isi, R_some, Rc_some, N.v_eq, N.v_ne, N.v_lt, N.v_le, N.v_gt, N.v_ge, N.v_add, N.v_sub, N.v_iadd, N.v_xor, N.v_int, N.tru_b, N.pd_d, N.data_nil, N.data_cons, N.len_t, N.v_tupT, N.g_name, N.isNone_n, N.isNone_t, N.isNone_i, N.v_isN, N.v_isNn, N.v_eqB, N.v_neB, List.set_cons_succ, List.set_cons_zero, List.getElem?_cons_succ, List.getElem?_cons_zero, Bool.not_true, Bool.not_false, Bool.false_eq_true, Bool.true_eq_false, eq_self, true_implies, false_implies, true_and, and_true, decide_true, decide_false, Int.zero_add, N.R_sl, N.R_it, R_oNone, R_oSome, wipeN, N.R_lst, N.R_mkF, N.R_mkT, N.R_meth, N.v_addT, Ri_rng1, Ri_rng2, Ri_seq, aft_rt]
          exact retn (badj fun k hk e => by
            have : PyData.int j ∈ nt M := mem_ntI.mpr ⟨k, hk, e⟩
            simp [this] at h3)
      · simp only [N.thn_nx, N.thn_rt, Rs_seq, Rs_set, Rs_ret, Rs_expr, Rs_nil, Rs_if, Rs_asg, Rs_aug, R_call, R_cons, R_nil, R_Var, R_C, R_bin, R_cmp, R_tcmp, R_tOr, R_tAnd, R_tNot, R_tVal, R_tTrue, R_ite, R_eAnd, R_eOr, R_eNot, R_neg, R_tup, R_isi, R_some, Rc_some, N.v_eq, N.v_ne, N.v_lt, N.v_le, N.v_gt, N.v_ge, N.v_add, N.v_sub, N.v_iadd, N.v_xor, N.v_int, N.tru_b, N.pd_d, N.data_nil, N.data_cons, N.len_t, N.v_tupT, N.g_name, N.isNone_n, N.isNone_t, N.isNone_i, N.v_isN, N.v_isNn, N.v_eqB, N.v_neB, List.set_cons_succ, List.set_cons_zero, List.getElem?_cons_succ, List.getElem?_cons_zero, Bool.not_true, Bool.not_false, Bool.false_eq_true, Bool.true_eq_false, eq_self, true_implies, false_implies, true_and, and_true, decide_true, decide_false, Int.zero_add, N.R_sl, N.R_it, R_oNone, R_oSome, wipeN, N.R_lst, N.R_mkF, N.R_mkT, N.R_meth, N.v_addT, Ri_rng1, Ri_rng2, Ri_seq, aft_rt]
        exact retn (badi fun k hk e => by
          have : PyData.int i ∈ nt M := mem_ntI.mpr ⟨k, hk, e⟩
          simp [this] at h2)
    · have hb : ¬ (isI a = true ∧ isI b = true) := fun h => by simp [h.1, h.2] at hb
      simp only [N.thn_nx, N.thn_rt, Rs_seq, Rs_set, Rs_ret, Rs_expr, Rs_nil, Rs_if, Rs_asg, Rs_aug, R_call, R_cons, R_nil, R_Var, R_C, R_bin, R_cmp, R_tcmp, R_tOr, R_tAnd, R_tNot, R_tVal, R_tTrue, R_ite, R_eAnd, R_eOr, R_eNot, R_neg, R_tup, R_isi, R_some, Rc_some, N.v_eq, N.v_ne, N.v_lt, N.v_le, N.v_gt, N.v_ge, N.v_add, N.v_sub, N.v_iadd, N.v_xor, N.v_int, N.tru_b, N.pd_d, N.data_nil, N.data_cons, N.len_t, N.v_tupT, N.g_name, N.isNone_n, N.isNone_t, N.isNone_i, N.v_isN, N.v_isNn, N.v_eqB, N.v_neB, List.set_cons_succ, List.set_cons_zero, List.getElem?_cons_succ, List.getElem?_cons_zero, Bool.not_true, Bool.not_false, Bool.false_eq_true, Bool.true_eq_false, eq_self, true_implies, false_implies, true_and, and_true, decide_true, decide_false, Int.zero_add, N.R_sl, N.R_it, R_oNone, R_oSome, wipeN, N.R_lst, N.R_mkF, N.R_mkT, N.R_meth, N.v_addT, Ri_rng1, Ri_rng2, Ri_seq, aft_rt]
      refine retn (bad ?_)
      rcases hd : dP n (.tuple [a, b]) with _ | p
      · rfl
      · obtain ⟨e1, e2, e3⟩ := dP_iff.mp hd
        cases e1
        exact (hb ⟨rfl, rfl⟩).elim
  · obtain ⟨M, o1, o5, o6, o7, h1, l, hml, rfl, rfl⟩ := hq
    rw [List.take_length] at h1
    rw [N.thn_nx, Rs_seq, Rs_ret]
    simp only [Rs_nil, R_call, R_cons, R_nil, R_Var, R_C, R_bin, R_cmp, R_tcmp, R_tOr, R_tAnd, R_tNot, R_tVal, R_tTrue, R_ite, R_eAnd, R_eOr, R_eNot, R_neg, R_tup, R_isi, R_some, Rc_some, N.v_eq, N.v_ne, N.v_lt, N.v_le, N.v_gt, N.v_ge, N.v_add, N.v_sub, N.v_iadd, N.v_xor, N.v_int, N.tru_b, N.pd_d, N.data_nil, N.data_cons, N.len_t, N.v_tupT, N.g_name, N.isNone_n, N.isNone_t, N.isNone_i, N.v_isN, N.v_isNn, N.v_eqB, N.v_neB, List.set_cons_succ, List.set_cons_zero, List.getElem?_cons_succ, List.getElem?_cons_zero, Bool.not_true, Bool.not_false, Bool.false_eq_true, Bool.true_eq_false, eq_self, true_implies, false_implies, true_and, and_true, decide_true, decide_false, Int.zero_add, N.R_sl, N.R_it, R_oNone, R_oSome, wipeN, N.R_lst, N.R_mkF, N.R_mkT, N.R_meth, N.v_addT, Ri_rng1, Ri_rng2, Ri_seq]
    rw [N.thn_rt]
    unfold N.ret
    simp only [Nat.lt_irrefl, if_neg Bool.false_ne_true, if_false, List.getElem?_append_right (Nat.le_refl s.length), Nat.sub_self, List.getElem?_cons_zero, data_map, R_some]
    unfold lbV lbD
    simp only [h1]
    refine ⟨trivial, ?_⟩
    rw [N.set_last]
    simp [trim, N.safe_app]
end
end T72

namespace T72
open PySem L2 PyProof.Rows N
section
variable {n : Nat} {es : List (Nat × Nat)} {s : Sto}
def cnd (n : Nat) (es lost : List (Nat × Nat)) (c r : Nat) : Bool := (nbP n es c).any fun t => decide (t = r) || (nbP n es r).all fun p => decide ((t, p) ∈ lost)
structure WI (n : Nat) (es lost : List (Nat × Nat)) : Prop where
  nd : lost.Nodup
  lt : ∀ p ∈ lost, p.1 < n ∧ p.2 < n
  so : ∀ p ∈ lost, Pk.Lost (AP es) (List.range n) p.1 p.2
  dg : n ≤ lost.length
def Cl (n : Nat) (es lost : List (Nat × Nat)) (c r : Nat) : Prop := (c, r) ∈ lost ∨ cnd n es lost c r = false
theorem WI.len {lost : List (Nat × Nat)} (h : WI n es lost) : lost.length ≤ n * n := by
  have h2 : ∀ e ∈ lost, e ∈ (List.range n).flatMap fun u => (List.range n).map fun v => (u, v) := fun e he => by
    have h1 := h.lt e he
    exact List.mem_flatMap.mpr ⟨e.1, List.mem_range.mpr h1.1, List.mem_map.mpr ⟨e.2, List.mem_range.mpr h1.2, rfl⟩⟩
  refine Nat.le_trans (Z.nd_sub h.nd h2) ?_
  have := flatMap_le (fun u => (List.range n).map fun v => (u, v)) n (List.range n) fun u _ => by simp
  rwa [List.length_range] at this
theorem WI.add {lost : List (Nat × Nat)} (h : WI n es lost) {c r : Nat} (hc : c < n) (hr : r < n) (hm : (c, r) ∉ lost) (hd : cnd n es lost c r = true) : WI n es (lost ++ [(c, r)]) := by
  refine ⟨?_, fun p hp => ?_, fun p hp => ?_, by have := h.dg; simp; omega⟩
  · rw [List.nodup_append]
    exact ⟨h.nd, by simp, fun a ha b hb e => hm (by rw [List.mem_singleton] at hb; rw [← hb, ← e]; exact ha)⟩
  · rcases List.mem_append.mp hp with hp | hp
    · exact h.lt p hp
    · rw [List.mem_singleton.mp hp]; exact ⟨hc, hr⟩
  · rcases List.mem_append.mp hp with hp | hp
    · exact h.so p hp
    · rw [List.mem_singleton.mp hp]
      unfold cnd at hd
      simp only [List.any_eq_true, Bool.or_eq_true, decide_eq_true_eq, List.all_eq_true, mem_nb] at hd
      obtain ⟨t, ⟨ht, ha⟩, h2⟩ := hd
      have mr : ∀ {x : Nat}, x < n → x ∈ List.range n := fun h => List.mem_range.mpr h
      rcases h2 with rfl | h2
      · exact .take c t (mr hc) (mr hr) ha
      · exact .step c r t (mr hc) (mr hr) (mr ht) ha fun p hp hrp => h.so (t, p) (h2 p ⟨List.mem_range.mp hp, hrp⟩)
theorem WI.end_ {lost : List (Nat × Nat)} (h : ∀ c < n, ∀ r < n, Cl n es lost c r) {c r : Nat} (hl : Pk.Lost (AP es) (List.range n) c r) : (c, r) ∈ lost := by
  have lr : ∀ {x : Nat}, x ∈ List.range n → x < n := fun h => List.mem_range.mp h
  induction hl with
  | take c r hc hr ha =>
    rcases h c (lr hc) r (lr hr) with h1 | h1
    · exact h1
    · have : cnd n es lost c r = true := by
        unfold cnd
        rw [List.any_eq_true]
        exact ⟨r, mem_nb.mpr ⟨lr hr, ha⟩, by simp⟩
      rw [this] at h1
      cases h1
  | step c r t hc hr ht ha _ ih =>
    rcases h c (lr hc) r (lr hr) with h1 | h1
    · exact h1
    · have : cnd n es lost c r = true := by
        unfold cnd
        rw [List.any_eq_true]
        refine ⟨t, mem_nb.mpr ⟨lr ht, ha⟩, ?_⟩
        rw [Bool.or_eq_true, List.all_eq_true]
        right
        intro p hp
        have hp := mem_nb.mp hp
        exact decide_eq_true (ih p (List.mem_range.mpr hp.1) hp.2)
      rw [this] at h1
      cases h1
noncomputable def winB (n : Nat) (es : List (Nat × Nat)) : Bool := @decide (Pk.Wins (AP es) (List.range n)) (Classical.propDecidable _)
theorem win_end {lost : List (Nat × Nat)} (w : WI n es lost) (h : ∀ c < n, ∀ r < n, Cl n es lost c r) : ((List.range n).any fun c => (List.range n).all fun r => decide ((c, r) ∈ lost)) = winB n es := by
  unfold winB
  rw [Bool.eq_iff_iff, @decide_eq_true_eq _ (Classical.propDecidable _), List.any_eq_true]
  constructor
  · rintro ⟨c, hc, h2⟩
    rw [List.all_eq_true] at h2
    exact ⟨c, hc, fun r hr => w.so (c, r) (by simpa using h2 r hr)⟩
  · rintro ⟨c, hc, h2⟩
    refine ⟨c, hc, ?_⟩
    rw [List.all_eq_true]
    exact fun r hr => decide_eq_true (WI.end_ h (h2 r hr))
theorem flatO_ok {rows : List (List PyData)} (hl : rows.flatten.length ≤ 100000) (s : Sto) : m__law_flat_O s [.d (.list (rows.map .list))] = some (.r s.length, s ++ [.lst (rows.flatten.map .d)]) := by
  apply R.eq
  unfold m__law_flat_O b__law_flat
  rw [R_fn]
  refine ⟨rfl, ?_⟩
  simp only [List.map_cons, List.map_nil, List.cons_append, List.nil_append, List.length_cons, List.length_nil, Nat.reduceSub, Nat.reduceAdd, List.replicate_succ, List.replicate_zero]
  rw [Rs_seq, Rs_set]
  simp only [Rs_nil, R_call, R_cons, R_nil, R_Var, R_C, R_bin, R_cmp, R_tcmp, R_tOr, R_tAnd, R_tNot, R_tVal, R_tTrue, R_ite, R_eAnd, R_eOr, R_eNot, R_neg, R_tup, R_isi, R_some, Rc_some, N.v_eq, N.v_ne, N.v_lt, N.v_le, N.v_gt, N.v_ge, N.v_add, N.v_sub, N.v_iadd, N.v_xor, N.v_int, N.tru_b, N.pd_d, N.data_nil, N.data_cons, N.len_t, N.v_tupT, N.g_name, N.isNone_n, N.isNone_t, N.isNone_i, N.v_isN, N.v_isNn, N.v_eqB, N.v_neB, List.set_cons_succ, List.set_cons_zero, List.getElem?_cons_succ, List.getElem?_cons_zero, Bool.not_true, Bool.not_false, Bool.false_eq_true, Bool.true_eq_false, eq_self, true_implies, false_implies, true_and, and_true, decide_true, decide_false, Int.zero_add, N.R_sl, N.R_it, R_oNone, R_oSome, wipeN, N.R_lst, N.R_mkF, N.R_mkT, N.R_meth, N.v_addT, Ri_rng1, Ri_rng2, Ri_seq]
  refine ⟨by simp [lim], ?_⟩
  rw [N.thn_nx, Rs_seq]
  refine Rs_for rows (fun r => .d (.list r)) (fun k e s' => s' = s ++ [.lst ((rows.take k).flatten.map .d)] ∧ e = [some (.d (.list (rows.map .list))), some (.r s.length), none]) ?_ (fun k r e s' hk hq => ?_) (fun e s' hq => ?_)
  · rw [Ri_seq]
    simp only [Rs_nil, R_call, R_cons, R_nil, R_Var, R_C, R_bin, R_cmp, R_tcmp, R_tOr, R_tAnd, R_tNot, R_tVal, R_tTrue, R_ite, R_eAnd, R_eOr, R_eNot, R_neg, R_tup, R_isi, R_some, Rc_some, N.v_eq, N.v_ne, N.v_lt, N.v_le, N.v_gt, N.v_ge, N.v_add, N.v_sub, N.v_iadd, N.v_xor, N.v_int, N.tru_b, N.pd_d, N.data_nil, N.data_cons, N.len_t, N.v_tupT, N.g_name, N.isNone_n, N.isNone_t, N.isNone_i, N.v_isN, N.v_isNn, N.v_eqB, N.v_neB, List.set_cons_succ, List.set_cons_zero, List.getElem?_cons_succ, List.getElem?_cons_zero, Bool.not_true, Bool.not_false, Bool.false_eq_true, Bool.true_eq_false, eq_self, true_implies, false_implies, true_and, and_true, decide_true, decide_false, Int.zero_add, N.R_sl, N.R_it, R_oNone, R_oSome, wipeN, N.R_lst, N.R_mkF, N.R_mkT, N.R_meth, N.v_addT, Ri_rng1, Ri_rng2, Ri_seq]
    exact ⟨by rw [List.map_map]; rfl, by simp⟩
  · obtain ⟨rfl, rfl⟩ := hq
    have g0 : (s ++ [Cell.lst ((rows.take k).flatten.map D.d)])[s.length]? = some (.lst ((rows.take k).flatten.map D.d)) := by simp
    have hsum : (rows.take k).flatten.length + r.length ≤ rows.flatten.length := by
      have h1 : rows.flatten = (rows.take k).flatten ++ (rows.drop k).flatten := by rw [← List.flatten_append, List.take_append_drop]
      obtain ⟨hlt, hr⟩ := List.getElem?_eq_some_iff.mp hk
      rw [h1, List.length_append, List.drop_eq_getElem_cons hlt, List.flatten_cons, List.length_append, hr]
      omega
    rw [g_name, Rc_some, Rs_seq, Rs_expr]
    simp only [Rs_nil, R_call, R_cons, R_nil, R_Var, R_C, R_bin, R_cmp, R_tcmp, R_tOr, R_tAnd, R_tNot, R_tVal, R_tTrue, R_ite, R_eAnd, R_eOr, R_eNot, R_neg, R_tup, R_isi, R_some, Rc_some, N.v_eq, N.v_ne, N.v_lt, N.v_le, N.v_gt, N.v_ge, N.v_add, N.v_sub, N.v_iadd, N.v_xor, N.v_int, N.tru_b, N.pd_d, N.data_nil, N.data_cons, N.len_t, N.v_tupT, N.g_name, N.isNone_n, N.isNone_t, N.isNone_i, N.v_isN, N.v_isNn, N.v_eqB, N.v_neB, List.set_cons_succ, List.set_cons_zero, List.getElem?_cons_succ, List.getElem?_cons_zero, Bool.not_true, Bool.not_false, Bool.false_eq_true, Bool.true_eq_false, eq_self, true_implies, false_implies, true_and, and_true, decide_true, decide_false, Int.zero_add, N.R_sl, N.R_it, R_oNone, R_oSome, wipeN, N.R_lst, N.R_mkF, N.R_mkT, N.R_meth, N.v_addT, Ri_rng1, Ri_rng2, Ri_seq, g0, v_extL]
    refine ⟨by rw [List.length_map]; simp only [lim]; omega, ?_⟩
    rw [N.set_last, N.thn_nx, Rs_nil, aft_nx, trimE_len (by simp)]
    refine ⟨?_, by simp [wipeN]⟩
    rw [List.take_add_one, hk, List.flatten_append, List.map_append]
    simp
  · obtain ⟨rfl, rfl⟩ := hq
    rw [List.take_length, N.thn_nx, Rs_seq, Rs_ret]
    simp only [Rs_nil, R_call, R_cons, R_nil, R_Var, R_C, R_bin, R_cmp, R_tcmp, R_tOr, R_tAnd, R_tNot, R_tVal, R_tTrue, R_ite, R_eAnd, R_eOr, R_eNot, R_neg, R_tup, R_isi, R_some, Rc_some, N.v_eq, N.v_ne, N.v_lt, N.v_le, N.v_gt, N.v_ge, N.v_add, N.v_sub, N.v_iadd, N.v_xor, N.v_int, N.tru_b, N.pd_d, N.data_nil, N.data_cons, N.len_t, N.v_tupT, N.g_name, N.isNone_n, N.isNone_t, N.isNone_i, N.v_isN, N.v_isNn, N.v_eqB, N.v_neB, List.set_cons_succ, List.set_cons_zero, List.getElem?_cons_succ, List.getElem?_cons_zero, Bool.not_true, Bool.not_false, Bool.false_eq_true, Bool.true_eq_false, eq_self, true_implies, false_implies, true_and, and_true, decide_true, decide_false, Int.zero_add, N.R_sl, N.R_it, R_oNone, R_oSome, wipeN, N.R_lst, N.R_mkF, N.R_mkT, N.R_meth, N.v_addT, Ri_rng1, Ri_rng2, Ri_seq]
    simp only [N.thn_rt, ret_own (Nat.le_refl s.length)]
    exact ⟨by trivial, by trivial⟩
abbrev eW (n : Nat) (es : List (Nat × Nat)) (j : Nat) (o4 o5 o6 o7 o8 : Option D) : Lo := [some (.d (parD n es)), some (.d (rwL n es)), some (.d (.int (n : Nat))), some (.r j), o4, o5, o6, o7, o8]
theorem cnd_ok {j c r : Nat} {lost : List (Nat × Nat)} {o6 o7 o8 : Option D} {S : Sto} (hn : n ≤ 12) (hc : c < n) (hr : r < n) (l : LL S (.r j) (lost.map prP)) {Qt : Bool → Sto → Prop} (q : Qt (cnd n es lost c r) S) :
    R (tVal (eCall bAny (aCons (eLc false [8] (iSeq (eIt (eVar 1) (eVar 5))) (gName 8) tTrue (eOr (eCmp cEq (eVar 8) (eVar 4)) (eCall bAll (aCons (eLc false [7] (iSeq (eIt (eVar 1) (eVar 4))) (gName 7) tTrue (eCmp (cIn false) (eTup (aCons (eVar 8) (aCons (eVar 7) aNil))) (eVar 3))) aNil)))) aNil)) (eW n es j (some (.d (.int (r : Nat)))) (some (.d (.int (c : Nat)))) o6 o7 o8) S) Qt := by
  rw [R_tVal, R_call, R_cons]
  refine R_lcmG (nbP n es c) (fun t => .d (.int (t : Nat))) (fun t => .bool (decide (t = r) || (nbP n es r).all fun p => decide ((t, p) ∈ lost))) (Ri_LLn (m_of ?_) (.inr (.inl rfl))) (fun t ht acc => ?_) (by have := nb_len n es c; simp only [lim]; omega) ?_
  · simp only [Rs_nil, R_call, R_cons, R_nil, R_Var, R_C, R_bin, R_cmp, R_tcmp, R_tOr, R_tAnd, R_tNot, R_tVal, R_tTrue, R_ite, R_eAnd, R_eOr, R_eNot, R_neg, R_tup, R_isi, R_some, Rc_some, N.v_eq, N.v_ne, N.v_lt, N.v_le, N.v_gt, N.v_ge, N.v_add, N.v_sub, N.v_iadd, N.v_xor, N.v_int, N.tru_b, N.pd_d, N.data_nil, N.data_cons, N.len_t, N.v_tupT, N.g_name, N.isNone_n, N.isNone_t, N.isNone_i, N.v_isN, N.v_isNn, N.v_eqB, N.v_neB, List.set_cons_succ, List.set_cons_zero, List.getElem?_cons_succ, List.getElem?_cons_zero, Bool.not_true, Bool.not_false, Bool.false_eq_true, Bool.true_eq_false, eq_self, true_implies, false_implies, true_and, and_true, decide_true, decide_false, Int.zero_add, N.R_sl, N.R_it, R_oNone, R_oSome, wipeN, N.R_lst, N.R_mkF, N.R_mkT, N.R_meth, N.v_addT, Ri_rng1, Ri_rng2, Ri_seq, rowL_at hc]
  · simp only [Rs_nil, R_call, R_cons, R_nil, R_Var, R_C, R_bin, R_cmp, R_tcmp, R_tOr, R_tAnd, R_tNot, R_tVal, R_tTrue, R_ite, R_eAnd, R_eOr, R_eNot, R_neg, R_tup, R_isi, R_some, Rc_some, N.v_eq, N.v_ne, N.v_lt, N.v_le, N.v_gt, N.v_ge, N.v_add, N.v_sub, N.v_iadd, N.v_xor, N.v_int, N.tru_b, N.pd_d, N.data_nil, N.data_cons, N.len_t, N.v_tupT, N.g_name, N.isNone_n, N.isNone_t, N.isNone_i, N.v_isN, N.v_isNn, N.v_eqB, N.v_neB, List.set_cons_succ, List.set_cons_zero, List.getElem?_cons_succ, List.getElem?_cons_zero, Bool.not_true, Bool.not_false, Bool.false_eq_true, Bool.true_eq_false, eq_self, true_implies, false_implies, true_and, and_true, decide_true, decide_false, Int.zero_add, N.R_sl, N.R_it, R_oNone, R_oSome, wipeN, N.R_lst, N.R_mkF, N.R_mkT, N.R_meth, N.v_addT, Ri_rng1, Ri_rng2, Ri_seq]
    by_cases e : t = r
    · subst e
      refine ⟨fun h => by simp at h, fun _ => by simp⟩
    · refine ⟨fun _ => ?_, fun h => by simp at h; omega⟩
      refine R_lcmG (nbP n es r) (fun t => .d (.int (t : Nat))) (fun p => .bool (decide ((t, p) ∈ lost))) (Ri_LLn (m_of ?_) (.inr (.inl rfl))) (fun p hp acc2 => ?_) (by have := nb_len n es r; simp only [lim]; omega) ?_
      · simp only [Rs_nil, R_call, R_cons, R_nil, R_Var, R_C, R_bin, R_cmp, R_tcmp, R_tOr, R_tAnd, R_tNot, R_tVal, R_tTrue, R_ite, R_eAnd, R_eOr, R_eNot, R_neg, R_tup, R_isi, R_some, Rc_some, N.v_eq, N.v_ne, N.v_lt, N.v_le, N.v_gt, N.v_ge, N.v_add, N.v_sub, N.v_iadd, N.v_xor, N.v_int, N.tru_b, N.pd_d, N.data_nil, N.data_cons, N.len_t, N.v_tupT, N.g_name, N.isNone_n, N.isNone_t, N.isNone_i, N.v_isN, N.v_isNn, N.v_eqB, N.v_neB, List.set_cons_succ, List.set_cons_zero, List.getElem?_cons_succ, List.getElem?_cons_zero, Bool.not_true, Bool.not_false, Bool.false_eq_true, Bool.true_eq_false, eq_self, true_implies, false_implies, true_and, and_true, decide_true, decide_false, Int.zero_add, N.R_sl, N.R_it, R_oNone, R_oSome, wipeN, N.R_lst, N.R_mkF, N.R_mkT, N.R_meth, N.v_addT, Ri_rng1, Ri_rng2, Ri_seq, rowL_at hr]
      · simp only [Rs_nil, R_call, R_cons, R_nil, R_Var, R_C, R_bin, R_cmp, R_tcmp, R_tOr, R_tAnd, R_tNot, R_tVal, R_tTrue, R_ite, R_eAnd, R_eOr, R_eNot, R_neg, R_tup, R_isi, R_some, Rc_some, N.v_eq, N.v_ne, N.v_lt, N.v_le, N.v_gt, N.v_ge, N.v_add, N.v_sub, N.v_iadd, N.v_xor, N.v_int, N.tru_b, N.pd_d, N.data_nil, N.data_cons, N.len_t, N.v_tupT, N.g_name, N.isNone_n, N.isNone_t, N.isNone_i, N.v_isN, N.v_isNn, N.v_eqB, N.v_neB, List.set_cons_succ, List.set_cons_zero, List.getElem?_cons_succ, List.getElem?_cons_zero, Bool.not_true, Bool.not_false, Bool.false_eq_true, Bool.true_eq_false, eq_self, true_implies, false_implies, true_and, and_true, decide_true, decide_false, Int.zero_add, N.R_sl, N.R_it, R_oNone, R_oSome, wipeN, N.R_lst, N.R_mkF, N.R_mkT, N.R_meth, N.v_addT, Ri_rng1, Ri_rng2, Ri_seq]
        rw [show PyData.tuple [PyData.int (t : Nat), PyData.int (p : Nat)] = prP (t, p) from rfl, in_prs ((l.app [.lst acc]).app [.lst acc2]), Rc_some]
        exact ⟨by simp [lim], by simp⟩
      · rw [all_map, R_some]
        simp [e]
  · rw [R_nil, N.v_any, R_some, tru_b, Rc_some]
    exact q
def lost0 (n : Nat) : List (Nat × Nat) := (List.range n).flatMap fun u => ((List.range n).filter fun v => decide (u = v)).map fun v => (u, v)
theorem mem_lost0 {p : Nat × Nat} : p ∈ lost0 n ↔ p.1 < n ∧ p.1 = p.2 := by
  unfold lost0
  rw [List.mem_flatMap]
  constructor
  · rintro ⟨u, hu, hp⟩
    obtain ⟨v, hv, rfl⟩ := List.mem_map.mp hp
    rw [List.mem_filter] at hv
    exact ⟨List.mem_range.mp hu, of_decide_eq_true hv.2⟩
  · rintro ⟨h1, h2⟩
    refine ⟨p.1, List.mem_range.mpr h1, List.mem_map.mpr ⟨p.2, List.mem_filter.mpr ⟨List.mem_range.mpr (by omega), decide_eq_true h2⟩, rfl⟩⟩
theorem WI.start : WI n es (lost0 n) := by
  refine ⟨?_, fun p hp => ?_, fun p hp => ?_, ?_⟩
  · unfold lost0
    rw [List.nodup_iff_pairwise_ne, List.pairwise_flatMap]
    refine ⟨fun u _ => ?_, (List.nodup_iff_pairwise_ne.mp List.nodup_range).imp fun {a b} ne x hx y hy e => ?_⟩
    · rw [List.pairwise_map]
      exact ((List.nodup_iff_pairwise_ne.mp List.nodup_range).filter _).imp fun {a b} ne e => ne (by injection e)
    · obtain ⟨_, _, rfl⟩ := List.mem_map.mp hx
      obtain ⟨_, _, rfl⟩ := List.mem_map.mp hy
      exact ne (by injection e)
  · have := mem_lost0.mp hp
    omega
  · obtain ⟨h1, h2⟩ := mem_lost0.mp hp
    rw [← h2]
    exact .take _ _ (List.mem_range.mpr h1) (List.mem_range.mpr h1) (AP.rf es _)
  · have : ((List.range n).map fun c => (c, c)).Nodup := by
      rw [List.nodup_iff_pairwise_ne, List.pairwise_map]
      exact (List.nodup_iff_pairwise_ne.mp List.nodup_range).imp fun {a b} ne e => ne (by injection e)
    have h := Z.nd_sub this (l2 := lost0 n) fun x hx => by
      obtain ⟨c, hc, rfl⟩ := List.mem_map.mp hx
      exact mem_lost0.mpr ⟨List.mem_range.mp hc, rfl⟩
    simpa using h
theorem wins_ok (G : Pkr n es) (h0 : 0 < n) (hn : n ≤ 12) : m__law_wins s [.d (parD n es)] = some (.d (.bool (winB n es)), s) := by
  apply R.eq
  unfold m__law_wins b__law_wins
  simp only [R_fn]
  refine ⟨rfl, ?_⟩
  simp only [List.map_cons, List.map_nil, List.cons_append, List.nil_append, List.length_cons, List.length_nil, List.replicate, Nat.reduceSub, Nat.reduceAdd]
  rw [Rs_seq, Rs_asg]
  simp only [Rs_nil, R_call, R_cons, R_nil, R_Var, R_C, R_bin, R_cmp, R_tcmp, R_tOr, R_tAnd, R_tNot, R_tVal, R_tTrue, R_ite, R_eAnd, R_eOr, R_eNot, R_neg, R_tup, R_isi, R_some, Rc_some, N.v_eq, N.v_ne, N.v_lt, N.v_le, N.v_gt, N.v_ge, N.v_add, N.v_sub, N.v_iadd, N.v_xor, N.v_int, N.tru_b, N.pd_d, N.data_nil, N.data_cons, N.len_t, N.v_tupT, N.g_name, N.isNone_n, N.isNone_t, N.isNone_i, N.v_isN, N.v_isNn, N.v_eqB, N.v_neB, List.set_cons_succ, List.set_cons_zero, List.getElem?_cons_succ, List.getElem?_cons_zero, Bool.not_true, Bool.not_false, Bool.false_eq_true, Bool.true_eq_false, eq_self, true_implies, false_implies, true_and, and_true, decide_true, decide_false, Int.zero_add, N.R_sl, N.R_it, R_oNone, R_oSome, wipeN, N.R_lst, N.R_mkF, N.R_mkT, N.R_meth, N.v_addT, Ri_rng1, Ri_rng2, Ri_seq, lawnear_ok G (show n ≤ 100 by omega), fst_par]
  refine ⟨by simp [lim], ?_⟩
  simp only [N.g_tup, N.gs_cons, N.gs_nil, N.gs_len, List.length_cons, List.length_nil, if_true, Nat.reduceAdd, g_name, List.set_cons_succ, List.set_cons_zero, Rc_some]
  have n2 : n * n ≤ 144 := Nat.mul_le_mul hn hn
  rw [N.thn_nx, Rs_seq, Rs_set, R_call, R_cons]
  refine R_lcmG (List.range n) (fun k => .d (.int (k : Nat))) (fun u => .list (((List.range n).filter fun v => decide (u = v)).map fun v => prP (u, v))) (rngI (by omega) rfl) (fun u hu acc => ?_) (by simp [lim]; omega) ?_
  · rw [g_name, Rc_some]
    refine R_lcG (List.range n) (fun k => .d (.int (k : Nat))) (fun v => prP (u, v)) (fun v => decide (u = v)) (rngI (by omega) rfl) (fun v hv acc2 => ?_) (by simp [lim]; omega) ?_
    · simp only [Rs_nil, R_call, R_cons, R_nil, R_Var, R_C, R_bin, R_cmp, R_tcmp, R_tOr, R_tAnd, R_tNot, R_tVal, R_tTrue, R_ite, R_eAnd, R_eOr, R_eNot, R_neg, R_tup, R_isi, R_some, Rc_some, N.v_eq, N.v_ne, N.v_lt, N.v_le, N.v_gt, N.v_ge, N.v_add, N.v_sub, N.v_iadd, N.v_xor, N.v_int, N.tru_b, N.pd_d, N.data_nil, N.data_cons, N.len_t, N.v_tupT, N.g_name, N.isNone_n, N.isNone_t, N.isNone_i, N.v_isN, N.v_isNn, N.v_eqB, N.v_neB, List.set_cons_succ, List.set_cons_zero, List.getElem?_cons_succ, List.getElem?_cons_zero, Bool.not_true, Bool.not_false, Bool.false_eq_true, Bool.true_eq_false, eq_self, true_implies, false_implies, true_and, and_true, decide_true, decide_false, Int.zero_add, N.R_sl, N.R_it, R_oNone, R_oSome, wipeN, N.R_lst, N.R_mkF, N.R_mkT, N.R_meth, N.v_addT, Ri_rng1, Ri_rng2, Ri_seq]
      refine ⟨decide_eq_decide.mpr (by omega), fun _ => by simp [lim]⟩
    · exact ⟨rfl, rfl⟩
  have e1 : ((List.range n).map fun u => PyData.list (((List.range n).filter fun v => decide (u = v)).map fun v => prP (u, v))) = ((List.range n).map fun u => ((List.range n).filter fun v => decide (u = v)).map fun v => prP (u, v)).map .list := by
    rw [List.map_map]
    rfl
  have e2 : ((List.range n).map fun u => ((List.range n).filter fun v => decide (u = v)).map fun v => prP (u, v)).flatten = (lost0 n).map prP := by
    unfold lost0
    rw [List.map_flatMap, List.flatMap_def]
    simp only [List.map_map]
    rfl
  have W0 := WI.start (n := n) (es := es)
  have wl := W0.len
  rw [R_nil, e1, flatO_ok (by rw [e2, List.length_map]; omega), e2, R_some]
  simp only [List.set_cons_succ, List.set_cons_zero]
  rw [N.thn_nx, Rs_seq, Rs_set]
  simp only [Rs_nil, R_call, R_cons, R_nil, R_Var, R_C, R_bin, R_cmp, R_tcmp, R_tOr, R_tAnd, R_tNot, R_tVal, R_tTrue, R_ite, R_eAnd, R_eOr, R_eNot, R_neg, R_tup, R_isi, R_some, Rc_some, N.v_eq, N.v_ne, N.v_lt, N.v_le, N.v_gt, N.v_ge, N.v_add, N.v_sub, N.v_iadd, N.v_xor, N.v_int, N.tru_b, N.pd_d, N.data_nil, N.data_cons, N.len_t, N.v_tupT, N.g_name, N.isNone_n, N.isNone_t, N.isNone_i, N.v_isN, N.v_isNn, N.v_eqB, N.v_neB, List.set_cons_succ, List.set_cons_zero, List.getElem?_cons_succ, List.getElem?_cons_zero, Bool.not_true, Bool.not_false, Bool.false_eq_true, Bool.true_eq_false, eq_self, true_implies, false_implies, true_and, and_true, decide_true, decide_false, Int.zero_add, N.R_sl, N.R_it, R_oNone, R_oSome, wipeN, N.R_lst, N.R_mkF, N.R_mkT, N.R_meth, N.v_addT, Ri_rng1, Ri_rng2, Ri_seq]
  rw [N.thn_nx, Rs_seq]
  refine Rs_while (fun m e s' => ∃ lost many o4 o5 o7 o8, n * n - many = m ∧ WI n es lost ∧ many ≤ lost.length ∧ (many = lost.length → ∀ c < n, ∀ r < n, Cl n es lost c r) ∧ s' = s ++ [cP lost] ∧ e = eW n es s.length o4 o5 (some (.d (.int (many : Nat)))) o7 o8) (m := n * n) (Nat.lt_of_le_of_lt n2 (by decide)) ⟨lost0 n, 0, none, none, none, none, by omega, W0, by omega, fun h => by have := W0.dg; omega, rfl, rfl⟩ (fun m e s' hi => ?_)
  obtain ⟨lost, many, o4, o5, o7, o8, hm, W, hle, hcl, rfl, rfl⟩ := hi
  have llw : ∀ lost : List (Nat × Nat), LL (s ++ [cP lost]) (.r s.length) (lost.map prP) := fun lost => .inr (.inr ⟨_, rfl, by simp [cP]⟩)
  simp only [Rs_nil, R_call, R_cons, R_nil, R_Var, R_C, R_bin, R_cmp, R_tcmp, R_tOr, R_tAnd, R_tNot, R_tVal, R_tTrue, R_ite, R_eAnd, R_eOr, R_eNot, R_neg, R_tup, R_isi, R_some, Rc_some, N.v_eq, N.v_ne, N.v_lt, N.v_le, N.v_gt, N.v_ge, N.v_add, N.v_sub, N.v_iadd, N.v_xor, N.v_int, N.tru_b, N.pd_d, N.data_nil, N.data_cons, N.len_t, N.v_tupT, N.g_name, N.isNone_n, N.isNone_t, N.isNone_i, N.v_isN, N.v_isNn, N.v_eqB, N.v_neB, List.set_cons_succ, List.set_cons_zero, List.getElem?_cons_succ, List.getElem?_cons_zero, Bool.not_true, Bool.not_false, Bool.false_eq_true, Bool.true_eq_false, eq_self, true_implies, false_implies, true_and, and_true, decide_true, decide_false, Int.zero_add, N.R_sl, N.R_it, R_oNone, R_oSome, wipeN, N.R_lst, N.R_mkF, N.R_mkT, N.R_meth, N.v_addT, Ri_rng1, Ri_rng2, Ri_seq, len_LL (llw lost), List.length_map]
  refine ⟨fun hb => ?_, fun hb => ?_⟩
  · have hb : many = lost.length := by have := of_decide_eq_false hb; omega
    rw [N.thn_nx, Rs_seq, Rs_ret, R_call, R_cons]
    refine R_lcmG (List.range n) (fun k => .d (.int (k : Nat))) (fun c => .bool ((List.range n).all fun r => decide ((c, r) ∈ lost))) (rngI (by omega) rfl) (fun c hc acc => ?_) (by simp [lim]; omega) ?_
    · rw [g_name, Rc_some, R_call, R_cons]
      refine R_lcmG (List.range n) (fun k => .d (.int (k : Nat))) (fun r => .bool (decide ((c, r) ∈ lost))) (rngI (by omega) rfl) (fun r hr acc2 => ?_) (by simp [lim]; omega) ?_
      · simp only [Rs_nil, R_call, R_cons, R_nil, R_Var, R_C, R_bin, R_cmp, R_tcmp, R_tOr, R_tAnd, R_tNot, R_tVal, R_tTrue, R_ite, R_eAnd, R_eOr, R_eNot, R_neg, R_tup, R_isi, R_some, Rc_some, N.v_eq, N.v_ne, N.v_lt, N.v_le, N.v_gt, N.v_ge, N.v_add, N.v_sub, N.v_iadd, N.v_xor, N.v_int, N.tru_b, N.pd_d, N.data_nil, N.data_cons, N.len_t, N.v_tupT, N.g_name, N.isNone_n, N.isNone_t, N.isNone_i, N.v_isN, N.v_isNn, N.v_eqB, N.v_neB, List.set_cons_succ, List.set_cons_zero, List.getElem?_cons_succ, List.getElem?_cons_zero, Bool.not_true, Bool.not_false, Bool.false_eq_true, Bool.true_eq_false, eq_self, true_implies, false_implies, true_and, and_true, decide_true, decide_false, Int.zero_add, N.R_sl, N.R_it, R_oNone, R_oSome, wipeN, N.R_lst, N.R_mkF, N.R_mkT, N.R_meth, N.v_addT, Ri_rng1, Ri_rng2, Ri_seq]
        rw [show PyData.tuple [PyData.int (c : Nat), PyData.int (r : Nat)] = prP (c, r) from rfl, in_prs (((llw lost).app [.lst acc]).app [.lst acc2]), Rc_some]
        exact ⟨by simp [lim], by simp⟩
      · rw [R_nil, all_map, R_some]
        exact ⟨rfl, rfl⟩
    · rw [R_nil, N.v_any, R_some, win_end W (hcl hb)]
      simp only [N.thn_rt, R_retd, trim_app]
      exact ⟨by trivial, by trivial⟩
  · have hb : many < lost.length := by have := of_decide_eq_true hb; omega
    have wl := W.len
    simp only [N.thn_nx, N.thn_rt, Rs_seq, Rs_set, Rs_ret, Rs_expr, Rs_nil, Rs_if, Rs_asg, Rs_aug, R_call, R_cons, R_nil, R_Var, R_C, R_bin, R_cmp, R_tcmp, R_tOr, R_tAnd, R_tNot, R_tVal, R_tTrue, R_ite, R_eAnd, R_eOr, R_eNot, R_neg, R_tup, R_isi, R_some, Rc_some, N.v_eq, N.v_ne, N.v_lt, N.v_le, N.v_gt, N.v_ge, N.v_add, N.v_sub, N.v_iadd, N.v_xor, N.v_int, N.tru_b, N.pd_d, N.data_nil, N.data_cons, N.len_t, N.v_tupT, N.g_name, N.isNone_n, N.isNone_t, N.isNone_i, N.v_isN, N.v_isNn, N.v_eqB, N.v_neB, List.set_cons_succ, List.set_cons_zero, List.getElem?_cons_succ, List.getElem?_cons_zero, Bool.not_true, Bool.not_false, Bool.false_eq_true, Bool.true_eq_false, eq_self, true_implies, false_implies, true_and, and_true, decide_true, decide_false, Int.zero_add, N.R_sl, N.R_it, R_oNone, R_oSome, wipeN, N.R_lst, N.R_mkF, N.R_mkT, N.R_meth, N.v_addT, Ri_rng1, Ri_rng2, Ri_seq, len_LL (llw lost), List.length_map]
    refine Rs_for (List.range n) (fun k => .d (.int (k : Nat))) (fun k e s' => ∃ lst o4 o5 o7 o8, WI n es lst ∧ lost.length ≤ lst.length ∧ (lost.length = lst.length → ∀ c < k, ∀ r < n, Cl n es lst c r) ∧ s' = s ++ [cP lst] ∧ e = eW n es s.length o4 o5 (some (.d (.int (lost.length : Nat)))) o7 o8) ((rngI1 (n := n) (by omega) rfl).keep ⟨lost, o4, o5, o7, o8, W, Nat.le_refl _, fun _ c hc => absurd hc (by omega), rfl, rfl⟩) (fun k x e s' hk hq => ?_) (fun e s' hq => ?_)
    · obtain ⟨lst, o4, o5, o7, o8, W1, hl1, hc1, rfl, rfl⟩ := hq
      obtain ⟨hk1, hk2⟩ := List.getElem?_eq_some_iff.mp hk
      rw [List.getElem_range] at hk2
      subst hk2
      rw [List.length_range] at hk1
      rw [g_name, Rc_some]
      rw [Rs_seq]
      refine Rs_for (List.range n) (fun k => .d (.int (k : Nat))) (fun j e s' => ∃ l2 o4 o7 o8, WI n es l2 ∧ lost.length ≤ l2.length ∧ (lost.length = l2.length → (∀ c < k, ∀ r < n, Cl n es l2 c r) ∧ ∀ r < j, Cl n es l2 k r) ∧ s' = s ++ [cP l2] ∧ e = eW n es s.length o4 (some (.d (.int (k : Nat)))) (some (.d (.int (lost.length : Nat)))) o7 o8) ((rngI1 (n := n) (by omega) rfl).keep ⟨lst, o4, o7, o8, W1, hl1, fun h => ⟨hc1 h, fun r hr => absurd hr (by omega)⟩, rfl, rfl⟩) (fun j x e s' hj hq => ?_) (fun e s' hq => ?_)
      · obtain ⟨l2, o4, o7, o8, W2, hl2, hc2, rfl, rfl⟩ := hq
        obtain ⟨hj1, hj2⟩ := List.getElem?_eq_some_iff.mp hj
        rw [List.getElem_range] at hj2
        subst hj2
        rw [List.length_range] at hj1
        have ext : ∀ {r : Nat}, r < j + 1 → r < j ∨ r = j := fun h => by omega
        rw [g_name, Rc_some, Rs_seq, Rs_if, R_tAnd]
        simp only [R_tcmp, R_tup, R_cons, R_nil, R_Var, List.set_cons_succ, List.set_cons_zero, List.getElem?_cons_succ, List.getElem?_cons_zero, N.data_cons, N.data_nil, Rc_some]
        refine ⟨by simp [lim], ?_⟩
        rw [show PyData.tuple [PyData.int (k : Nat), PyData.int (j : Nat)] = prP (k, j) from rfl, in_prs (llw l2), Rc_some, if_pos rfl]
        have skip : Cl n es l2 k j → ∃ l3 p4 p7 p8, WI n es l3 ∧ lost.length ≤ l3.length ∧ (lost.length = l3.length → (∀ c < k, ∀ r < n, Cl n es l3 c r) ∧ ∀ r < j + 1, Cl n es l3 k r) ∧ s ++ [cP l2] = s ++ [cP l3] ∧ eW n es s.length (some (.d (.int (j : Nat)))) (some (.d (.int (k : Nat)))) (some (.d (.int (lost.length : Nat)))) o7 o8 = eW n es s.length p4 (some (.d (.int (k : Nat)))) (some (.d (.int (lost.length : Nat)))) p7 p8 := fun hC => by
          refine ⟨l2, _, o7, o8, W2, hl2, fun h => ⟨(hc2 h).1, fun r hr => ?_⟩, rfl, rfl⟩
          rcases ext hr with h1 | rfl
          · exact (hc2 h).2 r h1
          · exact hC
        have g2 : (s ++ [cP l2])[s.length]? = some (.lst ((l2.map prP).map D.d)) := by simp [cP]
        refine ⟨fun hm => ?_, fun hm => ?_⟩
        · have hm : (k, j) ∉ l2 := by simpa using hm
          refine cnd_ok hn hk1 hj1 (llw l2) ?_
          refine ⟨fun hd => ?_, fun hd => ?_⟩
          · simp only [N.thn_nx, N.thn_rt, Rs_seq, Rs_set, Rs_ret, Rs_expr, Rs_nil, Rs_if, Rs_asg, Rs_aug, R_call, R_cons, R_nil, R_Var, R_C, R_bin, R_cmp, R_tcmp, R_tOr, R_tAnd, R_tNot, R_tVal, R_tTrue, R_ite, R_eAnd, R_eOr, R_eNot, R_neg, R_tup, R_isi, R_some, Rc_some, N.v_eq, N.v_ne, N.v_lt, N.v_le, N.v_gt, N.v_ge, N.v_add, N.v_sub, N.v_iadd, N.v_xor, N.v_int, N.tru_b, N.pd_d, N.data_nil, N.data_cons, N.len_t, N.v_tupT, N.g_name, N.isNone_n, N.isNone_t, N.isNone_i, N.v_isN, N.v_isNn, N.v_eqB, N.v_neB, List.set_cons_succ, List.set_cons_zero, List.getElem?_cons_succ, List.getElem?_cons_zero, Bool.not_true, Bool.not_false, Bool.false_eq_true, Bool.true_eq_false, eq_self, true_implies, false_implies, true_and, and_true, decide_true, decide_false, Int.zero_add, N.R_sl, N.R_it, R_oNone, R_oSome, wipeN, N.R_lst, N.R_mkF, N.R_mkT, N.R_meth, N.v_addT, Ri_rng1, Ri_rng2, Ri_seq, g2, N.v_app]
            have w2 := W2.len
            refine ⟨by simp [lim], by simp [lim]; omega, ?_⟩
            have e3 : (s ++ [cP l2]).set s.length (.lst ((l2.map prP).map D.d ++ [D.d (.tuple [.int (k : Nat), .int (j : Nat)])])) = s ++ [cP (l2 ++ [(k, j)])] := by
              rw [List.set_append_right _ _ (Nat.le_refl _), Nat.sub_self]
              simp [cP]
            rw [e3, aft_nx, trimE_len (by simp)]
            exact ⟨l2 ++ [(k, j)], _, o7, o8, W2.add hk1 hj1 hm hd, by simp; omega, fun h => by simp at h; omega, rfl, rfl⟩
          · rw [Rs_nil, N.thn_nx, Rs_nil, aft_nx, trimE_len rfl]
            exact skip (.inr hd)
        · have hm : (k, j) ∈ l2 := by simpa using hm
          simp only [N.thn_nx, N.thn_rt, Rs_seq, Rs_set, Rs_ret, Rs_expr, Rs_nil, Rs_if, Rs_asg, Rs_aug, R_call, R_cons, R_nil, R_Var, R_C, R_bin, R_cmp, R_tcmp, R_tOr, R_tAnd, R_tNot, R_tVal, R_tTrue, R_ite, R_eAnd, R_eOr, R_eNot, R_neg, R_tup, R_isi, R_some, Rc_some, N.v_eq, N.v_ne, N.v_lt, N.v_le, N.v_gt, N.v_ge, N.v_add, N.v_sub, N.v_iadd, N.v_xor, N.v_int, N.tru_b, N.pd_d, N.data_nil, N.data_cons, N.len_t, N.v_tupT, N.g_name, N.isNone_n, N.isNone_t, N.isNone_i, N.v_isN, N.v_isNn, N.v_eqB, N.v_neB, List.set_cons_succ, List.set_cons_zero, List.getElem?_cons_succ, List.getElem?_cons_zero, Bool.not_true, Bool.not_false, Bool.false_eq_true, Bool.true_eq_false, eq_self, true_implies, false_implies, true_and, and_true, decide_true, decide_false, Int.zero_add, N.R_sl, N.R_it, R_oNone, R_oSome, wipeN, N.R_lst, N.R_mkF, N.R_mkT, N.R_meth, N.v_addT, Ri_rng1, Ri_rng2, Ri_seq]
          rw [aft_nx, trimE_len rfl]
          exact skip (.inl hm)
      · obtain ⟨l2, o4, o7, o8, W2, hl2, hc2, rfl, rfl⟩ := hq
        rw [List.length_range] at hc2
        rw [N.thn_nx, Rs_nil, aft_nx, trimE_len (by simp)]
        refine ⟨l2, o4, _, o7, o8, W2, hl2, fun h c hc r hr => ?_, rfl, rfl⟩
        by_cases e : c = k
        · rw [e]; exact (hc2 h).2 r hr
        · exact (hc2 h).1 c (by omega) r hr
    · obtain ⟨lst, o4, o5, o7, o8, W1, hl1, hc1, rfl, rfl⟩ := hq
      rw [List.length_range] at hc1
      have w1 := W1.len
      rw [N.thn_nx, Rs_nil, aft_nx, trimE_len (by simp)]
      exact ⟨n * n - lost.length, by omega, lst, lost.length, o4, o5, o7, o8, rfl, W1, hl1, hc1, rfl, rfl⟩
end
end T72

namespace N
open PySem L2 PyProof.Rows

theorem alike_pr (p q : Nat × Nat) : PySem.W.alike (prP p) (prP q) = true := by
  unfold prP
  rw [PySem.W.alike]
  simp [PySem.W.alikeAll, PySem.W.alike]
theorem lt_pr (p q : Nat × Nat) (s : Sto) : cLtA s (.d (prP p)) (.d (prP q)) = some (PySem.W.dataLt (prP p) (prP q)) := by
  unfold cLtA
  simp only [N.pd_d]
  rw [if_pos ⟨alike_pr p q, rfl, by simp [PyData.depth, PyData.depthAll]⟩]
def ascP (xs : List PyData) : Bool := (List.range (xs.length - 1)).all fun k => PySem.W.dataLt (xs.getD k .none) (xs.getD (k + 1) .none)
theorem asc_rowP {X : List (Nat × Nat)} (hl : X.length ≤ 1000) {kv : Nat} {m : ME} {e : Lo} {s : Sto} (hm : ∀ s', m e s' = some (.d (.tuple (X.map prP)), s')) (hw : ∀ d s', m ((wipeN e [kv]).set kv (some d)) s' = some (.d (.tuple (X.map prP)), s')) (hk : ∀ d, ((wipeN e [kv]).set kv (some d))[kv]? = some (some d)) {Q : D → Sto → Prop} (q : Q (.d (.bool (ascP (X.map prP)))) s) :
    R (eCall bAll (aCons (eLc false [kv] (iRng1 (aCons (eBin oSub (eCall bLen (aCons m aNil)) (eC (.int 1))) aNil)) (gName kv) tTrue (eCmp cLtA (eIt m (eVar kv)) (eIt m (eBin (oAdd false) (eVar kv) (eC (.int 1)))))) aNil) e s) Q := by
  simp only [R_call, R_cons, R_nil]
  refine R_lcm (List.range (X.length - 1)) (fun k => .d (.int (k : Nat))) (fun k => .bool (PySem.W.dataLt ((X.map prP).getD k .none) ((X.map prP).getD (k + 1) .none))) ?_ (fun k hk2 acc => ?_) (by simp only [lim, List.length_range]; omega) ?_
  · rw [Ri_rng1]
    simp only [Rs_nil, R_call, R_cons, R_nil, R_Var, R_C, R_bin, R_cmp, R_tcmp, R_tOr, R_tAnd, R_tNot, R_tVal, R_tTrue, R_ite, R_eAnd, R_eOr, R_eNot, R_neg, R_tup, R_isi, R_some, Rc_some, N.v_eq, N.v_ne, N.v_lt, N.v_le, N.v_gt, N.v_ge, N.v_add, N.v_sub, N.v_iadd, N.v_xor, N.v_int, N.tru_b, N.pd_d, N.data_nil, N.data_cons, N.len_t, N.v_tupT, N.g_name, N.isNone_n, N.isNone_t, N.isNone_i, N.v_isN, N.v_isNn, N.v_eqB, N.v_neB, List.set_cons_succ, List.set_cons_zero, List.getElem?_cons_succ, List.getElem?_cons_zero, Bool.not_true, Bool.not_false, Bool.false_eq_true, Bool.true_eq_false, eq_self, true_implies, false_implies, true_and, and_true, decide_true, decide_false, Int.zero_add, N.R_sl, N.R_it, R_oNone, R_oSome, wipeN, N.R_lst, N.R_mkF, N.R_mkT, N.R_meth, N.v_addT, Ri_rng1, Ri_rng2, Ri_seq, hm, List.length_map]
    refine ⟨⟨by omega, by omega⟩, ?_⟩
    rw [show ((X.length : Int) - 1).toNat = (((X.length - 1 : Nat) : Int)).toNat by omega]
    exact rngN rfl
  · have hk2 := List.mem_range.mp hk2
    have hk3 : k < X.length := by omega
    have hk4 : k + 1 < X.length := by omega
    have key : ∀ j, j < X.length → ∀ s, itF s (.d (.tuple (X.map prP))) (.d (.int (j : Nat))) = some (.d ((X.map prP).getD j .none)) ∧ (X.map prP).getD j .none = prP (X.getD j (0, 0)) := fun j hj s => by
      have h1 : (X.map prP)[j]? = some (prP X[j]) := by rw [List.getElem?_map, List.getElem?_eq_getElem hj]; rfl
      refine ⟨?_, ?_⟩
      · rw [List.getD_eq_getElem?_getD, h1]
        exact itF_t (N.atI_nat h1)
      · rw [List.getD_eq_getElem?_getD, h1, List.getD_eq_getElem?_getD, List.getElem?_eq_getElem hj]
        rfl
    rw [g_name, Rc_some]
    simp only [R_cmp, R_it, R_Var, R_bin, R_C, hw, hk, N.v_add, R_some, (key k hk3 _).1]
    rw [show ((k : Nat) : Int) + 1 = ((k + 1 : Nat) : Int) by omega]
    simp only [(key (k + 1) hk4 _).1, Rc_some]
    rw [(key k hk3 s).2, (key (k + 1) hk4 s).2, lt_pr, Rc_some]
    first | exact ⟨rfl, rfl⟩ | exact ⟨rfl, trivial⟩ | exact ⟨trivial, trivial⟩ | trivial
  · rw [all_map, R_some]
    have : ((List.range (X.length - 1)).all fun k => PySem.W.dataLt ((X.map prP).getD k .none) ((X.map prP).getD (k + 1) .none)) = ascP (X.map prP) := by unfold ascP; rw [List.length_map]
    rw [this]
    exact q
/-- a way of n places -/
def isWB (n : Nat) (x : PyData) : Bool := match dP n x with
  | some p => decide (p.1 < p.2)
  | none => false
theorem way_ok {n : Nat} (h0 : 0 < n) (x : PyData) (s : Sto) : m_is_way s [.d (.int (n : Nat)), .d x] = some (.d (.bool (isWB n x)), s) := by
  apply R.eq
  unfold m_is_way b_is_way
  simp only [R_fn]
  refine ⟨rfl, ?_⟩
  simp only [List.map_cons, List.map_nil, List.cons_append, List.nil_append, List.length_cons, List.length_nil, List.replicate, Nat.reduceSub, Nat.reduceAdd]
  rw [Rs_seq, Rs_if]
  have no : dP n x = none → isWB n x = false := fun h => by unfold isWB; rw [h]
  rcases tup_or x with ⟨ys, rfl⟩ | hx
  case inr =>
    simp only [N.thn_nx, N.thn_rt, Rs_seq, Rs_set, Rs_ret, Rs_expr, Rs_nil, Rs_if, Rs_asg, Rs_aug, R_call, R_cons, R_nil, R_Var, R_C, R_bin, R_cmp, R_tcmp, R_tOr, R_tAnd, R_tNot, R_tVal, R_tTrue, R_ite, R_eAnd, R_eOr, R_eNot, R_neg, R_tup, R_isi, R_some, Rc_some, N.v_eq, N.v_ne, N.v_lt, N.v_le, N.v_gt, N.v_ge, N.v_add, N.v_sub, N.v_iadd, N.v_xor, N.v_int, N.tru_b, N.pd_d, N.data_nil, N.data_cons, N.len_t, N.v_tupT, N.g_name, N.isNone_n, N.isNone_t, N.isNone_i, N.v_isN, N.v_isNn, N.v_eqB, N.v_neB, List.set_cons_succ, List.set_cons_zero, List.getElem?_cons_succ, List.getElem?_cons_zero, Bool.not_true, Bool.not_false, Bool.false_eq_true, Bool.true_eq_false, eq_self, true_implies, false_implies, true_and, and_true, decide_true, decide_false, Int.zero_add, N.R_sl, N.R_it, R_oNone, R_oSome, wipeN, N.R_lst, N.R_mkF, N.R_mkT, N.R_meth, N.v_addT, Ri_rng1, Ri_rng2, Ri_seq, hx, R_retd, trim_self, no (dP_not hx)]
  rcases two_or ys with ⟨a, b, rfl⟩ | hl
  case inr =>
    have hl2 : decide ((ys.length : Int) = 2) = false := by
      rw [decide_eq_false_iff_not]
      omega
    simp only [N.thn_nx, N.thn_rt, Rs_seq, Rs_set, Rs_ret, Rs_expr, Rs_nil, Rs_if, Rs_asg, Rs_aug, R_call, R_cons, R_nil, R_Var, R_C, R_bin, R_cmp, R_tcmp, R_tOr, R_tAnd, R_tNot, R_tVal, R_tTrue, R_ite, R_eAnd, R_eOr, R_eNot, R_neg, R_tup, R_isi, R_some, Rc_some, N.v_eq, N.v_ne, N.v_lt, N.v_le, N.v_gt, N.v_ge, N.v_add, N.v_sub, N.v_iadd, N.v_xor, N.v_int, N.tru_b, N.pd_d, N.data_nil, N.data_cons, N.len_t, N.v_tupT, N.g_name, N.isNone_n, N.isNone_t, N.isNone_i, N.v_isN, N.v_isNn, N.v_eqB, N.v_neB, List.set_cons_succ, List.set_cons_zero, List.getElem?_cons_succ, List.getElem?_cons_zero, Bool.not_true, Bool.not_false, Bool.false_eq_true, Bool.true_eq_false, eq_self, true_implies, false_implies, true_and, and_true, decide_true, decide_false, Int.zero_add, N.R_sl, N.R_it, R_oNone, R_oSome, wipeN, N.R_lst, N.R_mkF, N.R_mkT, N.R_meth, N.v_addT, Ri_rng1, Ri_rng2, Ri_seq, show TyT.tup.of (.tuple ys) = true from rfl, hl2, R_retd, trim_self, no (dP_len hl)]
  simp only [N.thn_nx, N.thn_rt, Rs_seq, Rs_set, Rs_ret, Rs_expr, Rs_nil, Rs_if, Rs_asg, Rs_aug, R_call, R_cons, R_nil, R_Var, R_C, R_bin, R_cmp, R_tcmp, R_tOr, R_tAnd, R_tNot, R_tVal, R_tTrue, R_ite, R_eAnd, R_eOr, R_eNot, R_neg, R_tup, R_isi, R_some, Rc_some, N.v_eq, N.v_ne, N.v_lt, N.v_le, N.v_gt, N.v_ge, N.v_add, N.v_sub, N.v_iadd, N.v_xor, N.v_int, N.tru_b, N.pd_d, N.data_nil, N.data_cons, N.len_t, N.v_tupT, N.g_name, N.isNone_n, N.isNone_t, N.isNone_i, N.v_isN, N.v_isNn, N.v_eqB, N.v_neB, List.set_cons_succ, List.set_cons_zero, List.getElem?_cons_succ, List.getElem?_cons_zero, Bool.not_true, Bool.not_false, Bool.false_eq_true, Bool.true_eq_false, eq_self, true_implies, false_implies, true_and, and_true, decide_true, decide_false, Int.zero_add, N.R_sl, N.R_it, R_oNone, R_oSome, wipeN, N.R_lst, N.R_mkF, N.R_mkT, N.R_meth, N.v_addT, Ri_rng1, Ri_rng2, Ri_seq, show TyT.tup.of (.tuple [a, b]) = true from rfl, List.length_cons, List.length_nil, show decide ((((0 + 1 + 1 : Nat)) : Int) = 2) = true from rfl]
  refine R_lcmG [a, b] .d (fun x => .bool (isN 0 ((n : Nat) - 1) x)) ?_ (fun x hx acc => ?_) (by simp [lim]) ?_
  · simp only [Rs_nil, R_call, R_cons, R_nil, R_Var, R_C, R_bin, R_cmp, R_tcmp, R_tOr, R_tAnd, R_tNot, R_tVal, R_tTrue, R_ite, R_eAnd, R_eOr, R_eNot, R_neg, R_tup, R_isi, R_some, Rc_some, N.v_eq, N.v_ne, N.v_lt, N.v_le, N.v_gt, N.v_ge, N.v_add, N.v_sub, N.v_iadd, N.v_xor, N.v_int, N.tru_b, N.pd_d, N.data_nil, N.data_cons, N.len_t, N.v_tupT, N.g_name, N.isNone_n, N.isNone_t, N.isNone_i, N.v_isN, N.v_isNn, N.v_eqB, N.v_neB, List.set_cons_succ, List.set_cons_zero, List.getElem?_cons_succ, List.getElem?_cons_zero, Bool.not_true, Bool.not_false, Bool.false_eq_true, Bool.true_eq_false, eq_self, true_implies, false_implies, true_and, and_true, decide_true, decide_false, Int.zero_add, N.R_sl, N.R_it, R_oNone, R_oSome, wipeN, N.R_lst, N.R_mkF, N.R_mkT, N.R_meth, N.v_addT, Ri_rng1, Ri_rng2, Ri_seq]
    exact CkA.none _
  · simp only [Rs_nil, R_call, R_cons, R_nil, R_Var, R_C, R_bin, R_cmp, R_tcmp, R_tOr, R_tAnd, R_tNot, R_tVal, R_tTrue, R_ite, R_eAnd, R_eOr, R_eNot, R_neg, R_tup, R_isi, R_some, Rc_some, N.v_eq, N.v_ne, N.v_lt, N.v_le, N.v_gt, N.v_ge, N.v_add, N.v_sub, N.v_iadd, N.v_xor, N.v_int, N.tru_b, N.pd_d, N.data_nil, N.data_cons, N.len_t, N.v_tupT, N.g_name, N.isNone_n, N.isNone_t, N.isNone_i, N.v_isN, N.v_isNn, N.v_eqB, N.v_neB, List.set_cons_succ, List.set_cons_zero, List.getElem?_cons_succ, List.getElem?_cons_zero, Bool.not_true, Bool.not_false, Bool.false_eq_true, Bool.true_eq_false, eq_self, true_implies, false_implies, true_and, and_true, decide_true, decide_false, Int.zero_add, N.R_sl, N.R_it, R_oNone, R_oSome, wipeN, N.R_lst, N.R_mkF, N.R_mkT, N.R_meth, N.v_addT, Ri_rng1, Ri_rng2, Ri_seq, number_ok]
  rw [all_map, R_some, tru_b, Rc_some]
  refine ⟨fun hb => ?_, fun hb => ?_⟩
  · simp only [R_retd, trim_self]
    refine ⟨?_, by trivial⟩
    rw [no]
    rcases hd : dP n (.tuple [a, b]) with _ | p
    · rfl
    · obtain ⟨e1, e2, e3⟩ := dP_iff.mp hd
      cases e1
      have i1 := (isN_iff h0 (.int (p.1 : Nat))).mpr ⟨_, rfl, e2⟩
      have i2 := (isN_iff h0 (.int (p.2 : Nat))).mpr ⟨_, rfl, e3⟩
      simp [i1, i2] at hb
  · have hb : isN 0 ((n : Nat) - 1) a = true ∧ isN 0 ((n : Nat) - 1) b = true := by simpa using hb
    obtain ⟨i, rfl, hi⟩ := (isN_iff h0 a).mp hb.1
    obtain ⟨j, rfl, hj⟩ := (isN_iff h0 b).mp hb.2
    have hd : dP n (.tuple [.int (i : Nat), .int (j : Nat)]) = some (i, j) := dP_pr (p := (i, j)) hi hj
    simp only [N.thn_nx, N.thn_rt, Rs_seq, Rs_set, Rs_ret, Rs_expr, Rs_nil, Rs_if, Rs_asg, Rs_aug, R_call, R_cons, R_nil, R_Var, R_C, R_bin, R_cmp, R_tcmp, R_tOr, R_tAnd, R_tNot, R_tVal, R_tTrue, R_ite, R_eAnd, R_eOr, R_eNot, R_neg, R_tup, R_isi, R_some, Rc_some, N.v_eq, N.v_ne, N.v_lt, N.v_le, N.v_gt, N.v_ge, N.v_add, N.v_sub, N.v_iadd, N.v_xor, N.v_int, N.tru_b, N.pd_d, N.data_nil, N.data_cons, N.len_t, N.v_tupT, N.g_name, N.isNone_n, N.isNone_t, N.isNone_i, N.v_isN, N.v_isNn, N.v_eqB, N.v_neB, List.set_cons_succ, List.set_cons_zero, List.getElem?_cons_succ, List.getElem?_cons_zero, Bool.not_true, Bool.not_false, Bool.false_eq_true, Bool.true_eq_false, eq_self, true_implies, false_implies, true_and, and_true, decide_true, decide_false, Int.zero_add, N.R_sl, N.R_it, R_oNone, R_oSome, wipeN, N.R_lst, N.R_mkF, N.R_mkT, N.R_meth, N.v_addT, Ri_rng1, Ri_rng2, Ri_seq, it_1 (xs := [.int (i : Nat), .int (j : Nat)]) rfl, it_2 (xs := [.int (i : Nat), .int (j : Nat)]) rfl, R_retd, trim_self]
    unfold isWB
    rw [hd]
    simp
theorem ways_dec {n : Nat} {xs : List PyData} (h : xs.all (isWB n) = true) : ∃ es : List (Nat × Nat), xs = es.map prP := by
  induction xs with
  | nil => exact ⟨[], rfl⟩
  | cons x xs ih =>
    simp only [List.all_cons, Bool.and_eq_true] at h
    obtain ⟨es, rfl⟩ := ih h.2
    have h1 := h.1
    unfold isWB at h1
    rcases hd : dP n x with _ | p
    · rw [hd] at h1; cases h1
    · obtain ⟨rfl, _⟩ := dP_iff.mp hd
      exact ⟨p :: es, rfl⟩
def toNP : PyData → Nat
  | .int i => i.toNat
  | _ => 0
def wysB (n : Nat) : PyData → Bool
  | .tuple xs => xs.all (isWB n) && ascP xs
  | _ => false
def prkB : PyData → Bool
  | .tuple [a, b] => isN 1 12 a && wysB (toNP a) b
  | _ => false
theorem prkB_not {a b : PyData} (h : isN 1 12 a = false ∨ TyT.tup.of b = false) : prkB (.tuple [a, b]) = false := by
  unfold prkB
  rcases h with h | h
  · simp [h]
  · cases b <;> first | (cases h; done) | simp [wysB]
theorem prkB_len {ys : List PyData} (h : ys.length ≠ 2) : prkB (.tuple ys) = false := by
  match ys, h with
  | [], _ => rfl
  | [a], _ => rfl
  | [a, b], h => exact (h rfl).elim
  | a :: b :: c :: r, _ => rfl
theorem prkB_nt {x : PyData} (h : TyT.tup.of x = false) : prkB x = false := by
  cases x <;> first | rfl | cases h
theorem ispark_ok {x : PyData} (hlen : ∀ a xs, x = .tuple [a, .tuple xs] → xs.length ≤ 1000) (s : Sto) : m_is_park s [.d x] = some (.d (.bool (prkB x)), s) := by
  apply R.eq
  unfold m_is_park b_is_park
  simp only [R_fn]
  refine ⟨rfl, ?_⟩
  simp only [List.map_cons, List.map_nil, List.cons_append, List.nil_append, List.length_cons, List.length_nil, List.replicate, Nat.reduceSub, Nat.reduceAdd]
  rw [Rs_seq, Rs_if]
  rcases tup_or x with ⟨ys, rfl⟩ | hx
  case inr =>
    simp only [N.thn_nx, N.thn_rt, Rs_seq, Rs_set, Rs_ret, Rs_expr, Rs_nil, Rs_if, Rs_asg, Rs_aug, R_call, R_cons, R_nil, R_Var, R_C, R_bin, R_cmp, R_tcmp, R_tOr, R_tAnd, R_tNot, R_tVal, R_tTrue, R_ite, R_eAnd, R_eOr, R_eNot, R_neg, R_tup, R_isi, R_some, Rc_some, N.v_eq, N.v_ne, N.v_lt, N.v_le, N.v_gt, N.v_ge, N.v_add, N.v_sub, N.v_iadd, N.v_xor, N.v_int, N.tru_b, N.pd_d, N.data_nil, N.data_cons, N.len_t, N.v_tupT, N.g_name, N.isNone_n, N.isNone_t, N.isNone_i, N.v_isN, N.v_isNn, N.v_eqB, N.v_neB, List.set_cons_succ, List.set_cons_zero, List.getElem?_cons_succ, List.getElem?_cons_zero, Bool.not_true, Bool.not_false, Bool.false_eq_true, Bool.true_eq_false, eq_self, true_implies, false_implies, true_and, and_true, decide_true, decide_false, Int.zero_add, N.R_sl, N.R_it, R_oNone, R_oSome, wipeN, N.R_lst, N.R_mkF, N.R_mkT, N.R_meth, N.v_addT, Ri_rng1, Ri_rng2, Ri_seq, hx, R_retd, trim_self, prkB_nt hx]
  rcases two_or ys with ⟨a, b, rfl⟩ | hl
  case inr =>
    have hl2 : decide ((ys.length : Int) = 2) = false := by
      rw [decide_eq_false_iff_not]
      omega
    simp only [N.thn_nx, N.thn_rt, Rs_seq, Rs_set, Rs_ret, Rs_expr, Rs_nil, Rs_if, Rs_asg, Rs_aug, R_call, R_cons, R_nil, R_Var, R_C, R_bin, R_cmp, R_tcmp, R_tOr, R_tAnd, R_tNot, R_tVal, R_tTrue, R_ite, R_eAnd, R_eOr, R_eNot, R_neg, R_tup, R_isi, R_some, Rc_some, N.v_eq, N.v_ne, N.v_lt, N.v_le, N.v_gt, N.v_ge, N.v_add, N.v_sub, N.v_iadd, N.v_xor, N.v_int, N.tru_b, N.pd_d, N.data_nil, N.data_cons, N.len_t, N.v_tupT, N.g_name, N.isNone_n, N.isNone_t, N.isNone_i, N.v_isN, N.v_isNn, N.v_eqB, N.v_neB, List.set_cons_succ, List.set_cons_zero, List.getElem?_cons_succ, List.getElem?_cons_zero, Bool.not_true, Bool.not_false, Bool.false_eq_true, Bool.true_eq_false, eq_self, true_implies, false_implies, true_and, and_true, decide_true, decide_false, Int.zero_add, N.R_sl, N.R_it, R_oNone, R_oSome, wipeN, N.R_lst, N.R_mkF, N.R_mkT, N.R_meth, N.v_addT, Ri_rng1, Ri_rng2, Ri_seq, show TyT.tup.of (.tuple ys) = true from rfl, hl2, R_retd, trim_self, prkB_len hl]
  have j1 : ∀ s' : Sto, itF s' (.d (.tuple [a, b])) (.d (.int 0)) = some (.d a) := fun s' => it_1 rfl
  have j2 : ∀ s' : Sto, itF s' (.d (.tuple [a, b])) (.d (.int 1)) = some (.d b) := fun s' => it_2 rfl
  simp only [N.thn_nx, N.thn_rt, Rs_seq, Rs_set, Rs_ret, Rs_expr, Rs_nil, Rs_if, Rs_asg, Rs_aug, R_call, R_cons, R_nil, R_Var, R_C, R_bin, R_cmp, R_tcmp, R_tOr, R_tAnd, R_tNot, R_tVal, R_tTrue, R_ite, R_eAnd, R_eOr, R_eNot, R_neg, R_tup, R_isi, R_some, Rc_some, N.v_eq, N.v_ne, N.v_lt, N.v_le, N.v_gt, N.v_ge, N.v_add, N.v_sub, N.v_iadd, N.v_xor, N.v_int, N.tru_b, N.pd_d, N.data_nil, N.data_cons, N.len_t, N.v_tupT, N.g_name, N.isNone_n, N.isNone_t, N.isNone_i, N.v_isN, N.v_isNn, N.v_eqB, N.v_neB, List.set_cons_succ, List.set_cons_zero, List.getElem?_cons_succ, List.getElem?_cons_zero, Bool.not_true, Bool.not_false, Bool.false_eq_true, Bool.true_eq_false, eq_self, true_implies, false_implies, true_and, and_true, decide_true, decide_false, Int.zero_add, N.R_sl, N.R_it, R_oNone, R_oSome, wipeN, N.R_lst, N.R_mkF, N.R_mkT, N.R_meth, N.v_addT, Ri_rng1, Ri_rng2, Ri_seq, show TyT.tup.of (.tuple [a, b]) = true from rfl, List.length_cons, List.length_nil, show decide ((((0 + 1 + 1 : Nat)) : Int) = 2) = true from rfl, j1, j2, number_ok]
  refine ⟨fun hb => ?_, fun hb => ?_⟩
  · have hb : isN 1 12 a = false := by simpa using hb
    simp only [R_retd, trim_self, prkB_not (.inl hb)]
    trivial
  have hb : isN 1 12 a = true := by simpa using hb
  obtain ⟨i, rfl⟩ : ∃ i, a = .int i := by cases a <;> first | exact ⟨_, rfl⟩ | cases hb
  have hi : 1 ≤ i ∧ i ≤ 12 := by simpa [isN] using hb
  obtain ⟨n, rfl⟩ : ∃ n : Nat, i = (n : Nat) := ⟨i.toNat, by omega⟩
  rcases tup_or b with ⟨xs, rfl⟩ | hx
  case inr =>
    simp only [N.thn_nx, N.thn_rt, Rs_seq, Rs_set, Rs_ret, Rs_expr, Rs_nil, Rs_if, Rs_asg, Rs_aug, R_call, R_cons, R_nil, R_Var, R_C, R_bin, R_cmp, R_tcmp, R_tOr, R_tAnd, R_tNot, R_tVal, R_tTrue, R_ite, R_eAnd, R_eOr, R_eNot, R_neg, R_tup, R_isi, R_some, Rc_some, N.v_eq, N.v_ne, N.v_lt, N.v_le, N.v_gt, N.v_ge, N.v_add, N.v_sub, N.v_iadd, N.v_xor, N.v_int, N.tru_b, N.pd_d, N.data_nil, N.data_cons, N.len_t, N.v_tupT, N.g_name, N.isNone_n, N.isNone_t, N.isNone_i, N.v_isN, N.v_isNn, N.v_eqB, N.v_neB, List.set_cons_succ, List.set_cons_zero, List.getElem?_cons_succ, List.getElem?_cons_zero, Bool.not_true, Bool.not_false, Bool.false_eq_true, Bool.true_eq_false, eq_self, true_implies, false_implies, true_and, and_true, decide_true, decide_false, Int.zero_add, N.R_sl, N.R_it, R_oNone, R_oSome, wipeN, N.R_lst, N.R_mkF, N.R_mkT, N.R_meth, N.v_addT, Ri_rng1, Ri_rng2, Ri_seq, hx, R_retd, trim_self, prkB_not (.inr hx)]
  have hxl := hlen _ _ rfl
  simp only [N.thn_nx, N.thn_rt, Rs_seq, Rs_set, Rs_ret, Rs_expr, Rs_nil, Rs_if, Rs_asg, Rs_aug, R_call, R_cons, R_nil, R_Var, R_C, R_bin, R_cmp, R_tcmp, R_tOr, R_tAnd, R_tNot, R_tVal, R_tTrue, R_ite, R_eAnd, R_eOr, R_eNot, R_neg, R_tup, R_isi, R_some, Rc_some, N.v_eq, N.v_ne, N.v_lt, N.v_le, N.v_gt, N.v_ge, N.v_add, N.v_sub, N.v_iadd, N.v_xor, N.v_int, N.tru_b, N.pd_d, N.data_nil, N.data_cons, N.len_t, N.v_tupT, N.g_name, N.isNone_n, N.isNone_t, N.isNone_i, N.v_isN, N.v_isNn, N.v_eqB, N.v_neB, List.set_cons_succ, List.set_cons_zero, List.getElem?_cons_succ, List.getElem?_cons_zero, Bool.not_true, Bool.not_false, Bool.false_eq_true, Bool.true_eq_false, eq_self, true_implies, false_implies, true_and, and_true, decide_true, decide_false, Int.zero_add, N.R_sl, N.R_it, R_oNone, R_oSome, wipeN, N.R_lst, N.R_mkF, N.R_mkT, N.R_meth, N.v_addT, Ri_rng1, Ri_rng2, Ri_seq, show TyT.tup.of (.tuple xs) = true from rfl]
  refine R_lcmG xs .d (fun x => .bool (isWB n x)) ?_ (fun x hx acc => ?_) (by simp only [lim]; omega) ?_
  · rw [Ri_seq]
    simp only [Rs_nil, R_call, R_cons, R_nil, R_Var, R_C, R_bin, R_cmp, R_tcmp, R_tOr, R_tAnd, R_tNot, R_tVal, R_tTrue, R_ite, R_eAnd, R_eOr, R_eNot, R_neg, R_tup, R_isi, R_some, Rc_some, N.v_eq, N.v_ne, N.v_lt, N.v_le, N.v_gt, N.v_ge, N.v_add, N.v_sub, N.v_iadd, N.v_xor, N.v_int, N.tru_b, N.pd_d, N.data_nil, N.data_cons, N.len_t, N.v_tupT, N.g_name, N.isNone_n, N.isNone_t, N.isNone_i, N.v_isN, N.v_isNn, N.v_eqB, N.v_neB, List.set_cons_succ, List.set_cons_zero, List.getElem?_cons_succ, List.getElem?_cons_zero, Bool.not_true, Bool.not_false, Bool.false_eq_true, Bool.true_eq_false, eq_self, true_implies, false_implies, true_and, and_true, decide_true, decide_false, Int.zero_add, N.R_sl, N.R_it, R_oNone, R_oSome, wipeN, N.R_lst, N.R_mkF, N.R_mkT, N.R_meth, N.v_addT, Ri_rng1, Ri_rng2, Ri_seq, j2]
    exact CkA.none _
  · simp only [Rs_nil, R_call, R_cons, R_nil, R_Var, R_C, R_bin, R_cmp, R_tcmp, R_tOr, R_tAnd, R_tNot, R_tVal, R_tTrue, R_ite, R_eAnd, R_eOr, R_eNot, R_neg, R_tup, R_isi, R_some, Rc_some, N.v_eq, N.v_ne, N.v_lt, N.v_le, N.v_gt, N.v_ge, N.v_add, N.v_sub, N.v_iadd, N.v_xor, N.v_int, N.tru_b, N.pd_d, N.data_nil, N.data_cons, N.len_t, N.v_tupT, N.g_name, N.isNone_n, N.isNone_t, N.isNone_i, N.v_isN, N.v_isNn, N.v_eqB, N.v_neB, List.set_cons_succ, List.set_cons_zero, List.getElem?_cons_succ, List.getElem?_cons_zero, Bool.not_true, Bool.not_false, Bool.false_eq_true, Bool.true_eq_false, eq_self, true_implies, false_implies, true_and, and_true, decide_true, decide_false, Int.zero_add, N.R_sl, N.R_it, R_oNone, R_oSome, wipeN, N.R_lst, N.R_mkF, N.R_mkT, N.R_meth, N.v_addT, Ri_rng1, Ri_rng2, Ri_seq, j1, way_ok (show 0 < n by omega)]
  rw [all_map, R_some, tru_b, Rc_some]
  have un : prkB (.tuple [.int (n : Nat), .tuple xs]) = (xs.all (isWB n) && ascP xs) := by
    show (isN 1 12 (.int (n : Nat)) && wysB ((n : Int).toNat) (.tuple xs)) = _
    rw [hb, Bool.true_and, Int.toNat_natCast]
    rfl
  refine ⟨fun hb => ?_, fun hb => ?_⟩
  · have hb : xs.all (isWB n) = false := by simpa using hb
    simp only [R_retd, trim_self, un, hb]
    trivial
  · have hb : xs.all (isWB n) = true := by simpa using hb
    obtain ⟨es, rfl⟩ := ways_dec hb
    try simp only [N.thn_nx, N.thn_rt, Rs_seq, Rs_set, Rs_ret, Rs_expr, Rs_nil, Rs_if, Rs_asg, Rs_aug, R_call, R_cons, R_nil, R_Var, R_C, R_bin, R_cmp, R_tcmp, R_tOr, R_tAnd, R_tNot, R_tVal, R_tTrue, R_ite, R_eAnd, R_eOr, R_eNot, R_neg, R_tup, R_isi, R_some, Rc_some, N.v_eq, N.v_ne, N.v_lt, N.v_le, N.v_gt, N.v_ge, N.v_add, N.v_sub, N.v_iadd, N.v_xor, N.v_int, N.tru_b, N.pd_d, N.data_nil, N.data_cons, N.len_t, N.v_tupT, N.g_name, N.isNone_n, N.isNone_t, N.isNone_i, N.v_isN, N.v_isNn, N.v_eqB, N.v_neB, List.set_cons_succ, List.set_cons_zero, List.getElem?_cons_succ, List.getElem?_cons_zero, Bool.not_true, Bool.not_false, Bool.false_eq_true, Bool.true_eq_false, eq_self, true_implies, false_implies, true_and, and_true, decide_true, decide_false, Int.zero_add, N.R_sl, N.R_it, R_oNone, R_oSome, wipeN, N.R_lst, N.R_mkF, N.R_mkT, N.R_meth, N.v_addT, Ri_rng1, Ri_rng2, Ri_seq, j2]
    unfold m_is_ascending b_is_ascending
    simp only [R_fn]
    refine ⟨rfl, ?_⟩
    simp only [List.map_cons, List.map_nil, List.cons_append, List.nil_append, List.length_cons, List.length_nil, List.replicate, Nat.reduceSub, Nat.reduceAdd]
    rw [Rs_seq, Rs_ret]
    refine asc_rowP (by simpa using hxl) (fun s' => m_of ?_) (fun d s' => m_of ?_) (fun d => rfl) ?_
    · simp only [Rs_nil, R_call, R_cons, R_nil, R_Var, R_C, R_bin, R_cmp, R_tcmp, R_tOr, R_tAnd, R_tNot, R_tVal, R_tTrue, R_ite, R_eAnd, R_eOr, R_eNot, R_neg, R_tup, R_isi, R_some, Rc_some, N.v_eq, N.v_ne, N.v_lt, N.v_le, N.v_gt, N.v_ge, N.v_add, N.v_sub, N.v_iadd, N.v_xor, N.v_int, N.tru_b, N.pd_d, N.data_nil, N.data_cons, N.len_t, N.v_tupT, N.g_name, N.isNone_n, N.isNone_t, N.isNone_i, N.v_isN, N.v_isNn, N.v_eqB, N.v_neB, List.set_cons_succ, List.set_cons_zero, List.getElem?_cons_succ, List.getElem?_cons_zero, Bool.not_true, Bool.not_false, Bool.false_eq_true, Bool.true_eq_false, eq_self, true_implies, false_implies, true_and, and_true, decide_true, decide_false, Int.zero_add, N.R_sl, N.R_it, R_oNone, R_oSome, wipeN, N.R_lst, N.R_mkF, N.R_mkT, N.R_meth, N.v_addT, Ri_rng1, Ri_rng2, Ri_seq]
    · simp only [Rs_nil, R_call, R_cons, R_nil, R_Var, R_C, R_bin, R_cmp, R_tcmp, R_tOr, R_tAnd, R_tNot, R_tVal, R_tTrue, R_ite, R_eAnd, R_eOr, R_eNot, R_neg, R_tup, R_isi, R_some, Rc_some, N.v_eq, N.v_ne, N.v_lt, N.v_le, N.v_gt, N.v_ge, N.v_add, N.v_sub, N.v_iadd, N.v_xor, N.v_int, N.tru_b, N.pd_d, N.data_nil, N.data_cons, N.len_t, N.v_tupT, N.g_name, N.isNone_n, N.isNone_t, N.isNone_i, N.v_isN, N.v_isNn, N.v_eqB, N.v_neB, List.set_cons_succ, List.set_cons_zero, List.getElem?_cons_succ, List.getElem?_cons_zero, Bool.not_true, Bool.not_false, Bool.false_eq_true, Bool.true_eq_false, eq_self, true_implies, false_implies, true_and, and_true, decide_true, decide_false, Int.zero_add, N.R_sl, N.R_it, R_oNone, R_oSome, wipeN, N.R_lst, N.R_mkF, N.R_mkT, N.R_meth, N.v_addT, Ri_rng1, Ri_rng2, Ri_seq]
    · simp only [N.thn_rt, R_retd, trim_self, un, hb, Bool.true_and]
      exact ⟨by trivial, by trivial⟩
end N

namespace T72
open PySem L2 PyProof.Rows N
def isNl (n : Nat) (x : PyData) : Bool := isN 0 ((n : Nat) - 1) x
theorem R_place {n v k : Nat} {e : Lo} {s : Sto} {x b : PyData} {Q : D → Sto → Prop} (hv : e[v]? = some (some (.d x))) (hn : e[k]? = some (some (.d (.tuple [.int (n : Nat), b])))) (q : Q (.d (.bool (isNl n x))) s) :
    R (eAnd (eIsi .int (eVar v)) (eAnd (eNot (eIsi .bl (eVar v))) (eCh (fun i j => decide (i ≤ j)) (fun i j => decide (i < j)) (eC (.int 0)) (eVar v) (eIt (eVar k) (eC (.int 0))))) e s) Q := by
  have j1 : ∀ s' : Sto, itF s' (.d (.tuple [.int (n : Nat), b])) (.d (.int 0)) = some (.d (.int (n : Nat))) := fun s' => it_1 rfl
  rw [R_eAnd, R_isi, R_Var, hv]
  simp only [N.pd_d, Rc_some, N.tru_b]
  cases x with
  | int i =>
    refine ⟨fun _ => ?_, fun h => (by cases h)⟩
    simp only [Rs_nil, R_call, R_cons, R_nil, R_Var, R_C, R_bin, R_cmp, R_tcmp, R_tOr, R_tAnd, R_tNot, R_tVal, R_tTrue, R_ite, R_eAnd, R_eOr, R_eNot, R_neg, R_tup, R_isi, R_some, Rc_some, N.v_eq, N.v_ne, N.v_lt, N.v_le, N.v_gt, N.v_ge, N.v_add, N.v_sub, N.v_iadd, N.v_xor, N.v_int, N.tru_b, N.pd_d, N.data_nil, N.data_cons, N.len_t, N.v_tupT, N.g_name, N.isNone_n, N.isNone_t, N.isNone_i, N.v_isN, N.v_isNn, N.v_eqB, N.v_neB, List.set_cons_succ, List.set_cons_zero, List.getElem?_cons_succ, List.getElem?_cons_zero, Bool.not_true, Bool.not_false, Bool.false_eq_true, Bool.true_eq_false, eq_self, true_implies, false_implies, true_and, and_true, decide_true, decide_false, Int.zero_add, N.R_sl, N.R_it, R_oNone, R_oSome, wipeN, N.R_lst, N.R_mkF, N.R_mkT, N.R_meth, N.v_addT, Ri_rng1, Ri_rng2, Ri_seq, hv, hn, j1, R_eCh, R_chK]
    refine ⟨fun _ => ⟨fun h1 => ?_, fun h1 => ?_⟩, fun h => (by cases h)⟩
    · rw [show decide (i < ((n : Nat) : Int)) = isNl n (.int i) from by
        unfold isNl
        show _ = (decide (0 ≤ i) && decide (i ≤ ((n : Nat) : Int) - 1))
        rw [show decide (0 ≤ i) = true from h1, Bool.true_and]
        exact decide_eq_decide.mpr (by omega)]
      exact q
    · rw [show false = isNl n (.int i) from by
        unfold isNl
        show _ = (decide (0 ≤ i) && decide (i ≤ ((n : Nat) : Int) - 1))
        rw [show decide (0 ≤ i) = false from h1, Bool.false_and]]
      exact q
  | bool b =>
    refine ⟨fun _ => ?_, fun h => (by cases h)⟩
    simp only [Rs_nil, R_call, R_cons, R_nil, R_Var, R_C, R_bin, R_cmp, R_tcmp, R_tOr, R_tAnd, R_tNot, R_tVal, R_tTrue, R_ite, R_eAnd, R_eOr, R_eNot, R_neg, R_tup, R_isi, R_some, Rc_some, N.v_eq, N.v_ne, N.v_lt, N.v_le, N.v_gt, N.v_ge, N.v_add, N.v_sub, N.v_iadd, N.v_xor, N.v_int, N.tru_b, N.pd_d, N.data_nil, N.data_cons, N.len_t, N.v_tupT, N.g_name, N.isNone_n, N.isNone_t, N.isNone_i, N.v_isN, N.v_isNn, N.v_eqB, N.v_neB, List.set_cons_succ, List.set_cons_zero, List.getElem?_cons_succ, List.getElem?_cons_zero, Bool.not_true, Bool.not_false, Bool.false_eq_true, Bool.true_eq_false, eq_self, true_implies, false_implies, true_and, and_true, decide_true, decide_false, Int.zero_add, N.R_sl, N.R_it, R_oNone, R_oSome, wipeN, N.R_lst, N.R_mkF, N.R_mkT, N.R_meth, N.v_addT, Ri_rng1, Ri_rng2, Ri_seq, hv]
    exact ⟨fun h => (by cases h), fun _ => q⟩
  | _ => exact ⟨fun h => (by cases h), fun _ => q⟩
theorem lawpark_ok {x : PyData} (hlen : ∀ a xs, x = .tuple [a, .tuple xs] → xs.length ≤ 1000) (s : Sto) : m__law_is_park s [.d x] = some (.d (.bool (prkB x)), s) := by
  apply R.eq
  unfold m__law_is_park b__law_is_park
  simp only [R_fn]
  refine ⟨rfl, ?_⟩
  simp only [List.map_cons, List.map_nil, List.cons_append, List.nil_append, List.length_cons, List.length_nil, List.replicate, Nat.reduceSub, Nat.reduceAdd]
  rw [Rs_seq, Rs_if]
  rcases tup_or x with ⟨ys, rfl⟩ | hx
  case inr =>
    simp only [N.thn_nx, N.thn_rt, Rs_seq, Rs_set, Rs_ret, Rs_expr, Rs_nil, Rs_if, Rs_asg, Rs_aug, R_call, R_cons, R_nil, R_Var, R_C, R_bin, R_cmp, R_tcmp, R_tOr, R_tAnd, R_tNot, R_tVal, R_tTrue, R_ite, R_eAnd, R_eOr, R_eNot, R_neg, R_tup, R_isi, R_some, Rc_some, N.v_eq, N.v_ne, N.v_lt, N.v_le, N.v_gt, N.v_ge, N.v_add, N.v_sub, N.v_iadd, N.v_xor, N.v_int, N.tru_b, N.pd_d, N.data_nil, N.data_cons, N.len_t, N.v_tupT, N.g_name, N.isNone_n, N.isNone_t, N.isNone_i, N.v_isN, N.v_isNn, N.v_eqB, N.v_neB, List.set_cons_succ, List.set_cons_zero, List.getElem?_cons_succ, List.getElem?_cons_zero, Bool.not_true, Bool.not_false, Bool.false_eq_true, Bool.true_eq_false, eq_self, true_implies, false_implies, true_and, and_true, decide_true, decide_false, Int.zero_add, N.R_sl, N.R_it, R_oNone, R_oSome, wipeN, N.R_lst, N.R_mkF, N.R_mkT, N.R_meth, N.v_addT, Ri_rng1, Ri_rng2, Ri_seq, hx, R_retd, trim_self, prkB_nt hx]
  rcases two_or ys with ⟨a, b, rfl⟩ | hl
  case inr =>
    have hl2 : decide ((ys.length : Int) = 2) = false := by
      rw [decide_eq_false_iff_not]
      omega
    simp only [N.thn_nx, N.thn_rt, Rs_seq, Rs_set, Rs_ret, Rs_expr, Rs_nil, Rs_if, Rs_asg, Rs_aug, R_call, R_cons, R_nil, R_Var, R_C, R_bin, R_cmp, R_tcmp, R_tOr, R_tAnd, R_tNot, R_tVal, R_tTrue, R_ite, R_eAnd, R_eOr, R_eNot, R_neg, R_tup, R_isi, R_some, Rc_some, N.v_eq, N.v_ne, N.v_lt, N.v_le, N.v_gt, N.v_ge, N.v_add, N.v_sub, N.v_iadd, N.v_xor, N.v_int, N.tru_b, N.pd_d, N.data_nil, N.data_cons, N.len_t, N.v_tupT, N.g_name, N.isNone_n, N.isNone_t, N.isNone_i, N.v_isN, N.v_isNn, N.v_eqB, N.v_neB, List.set_cons_succ, List.set_cons_zero, List.getElem?_cons_succ, List.getElem?_cons_zero, Bool.not_true, Bool.not_false, Bool.false_eq_true, Bool.true_eq_false, eq_self, true_implies, false_implies, true_and, and_true, decide_true, decide_false, Int.zero_add, N.R_sl, N.R_it, R_oNone, R_oSome, wipeN, N.R_lst, N.R_mkF, N.R_mkT, N.R_meth, N.v_addT, Ri_rng1, Ri_rng2, Ri_seq, show TyT.tup.of (.tuple ys) = true from rfl, hl2, R_retd, trim_self, prkB_len hl]
  have j1 : ∀ s' : Sto, itF s' (.d (.tuple [a, b])) (.d (.int 0)) = some (.d a) := fun s' => it_1 rfl
  have j2 : ∀ s' : Sto, itF s' (.d (.tuple [a, b])) (.d (.int 1)) = some (.d b) := fun s' => it_2 rfl
  rcases ha : TyT.int.of a with _ | _
  · simp only [N.thn_nx, N.thn_rt, Rs_seq, Rs_set, Rs_ret, Rs_expr, Rs_nil, Rs_if, Rs_asg, Rs_aug, R_call, R_cons, R_nil, R_Var, R_C, R_bin, R_cmp, R_tcmp, R_tOr, R_tAnd, R_tNot, R_tVal, R_tTrue, R_ite, R_eAnd, R_eOr, R_eNot, R_neg, R_tup, R_isi, R_some, Rc_some, N.v_eq, N.v_ne, N.v_lt, N.v_le, N.v_gt, N.v_ge, N.v_add, N.v_sub, N.v_iadd, N.v_xor, N.v_int, N.tru_b, N.pd_d, N.data_nil, N.data_cons, N.len_t, N.v_tupT, N.g_name, N.isNone_n, N.isNone_t, N.isNone_i, N.v_isN, N.v_isNn, N.v_eqB, N.v_neB, List.set_cons_succ, List.set_cons_zero, List.getElem?_cons_succ, List.getElem?_cons_zero, Bool.not_true, Bool.not_false, Bool.false_eq_true, Bool.true_eq_false, eq_self, true_implies, false_implies, true_and, and_true, decide_true, decide_false, Int.zero_add, N.R_sl, N.R_it, R_oNone, R_oSome, wipeN, N.R_lst, N.R_mkF, N.R_mkT, N.R_meth, N.v_addT, Ri_rng1, Ri_rng2, Ri_seq, show TyT.tup.of (.tuple [a, b]) = true from rfl, List.length_cons, List.length_nil, show decide ((((0 + 1 + 1 : Nat)) : Int) = 2) = true from rfl, j1, j2, ha, R_retd, trim_self]
    rw [prkB_not (.inl (by cases a <;> first | rfl | cases ha))]
  rcases hbl : TyT.bl.of a with _ | _
  case true =>
    simp only [N.thn_nx, N.thn_rt, Rs_seq, Rs_set, Rs_ret, Rs_expr, Rs_nil, Rs_if, Rs_asg, Rs_aug, R_call, R_cons, R_nil, R_Var, R_C, R_bin, R_cmp, R_tcmp, R_tOr, R_tAnd, R_tNot, R_tVal, R_tTrue, R_ite, R_eAnd, R_eOr, R_eNot, R_neg, R_tup, R_isi, R_some, Rc_some, N.v_eq, N.v_ne, N.v_lt, N.v_le, N.v_gt, N.v_ge, N.v_add, N.v_sub, N.v_iadd, N.v_xor, N.v_int, N.tru_b, N.pd_d, N.data_nil, N.data_cons, N.len_t, N.v_tupT, N.g_name, N.isNone_n, N.isNone_t, N.isNone_i, N.v_isN, N.v_isNn, N.v_eqB, N.v_neB, List.set_cons_succ, List.set_cons_zero, List.getElem?_cons_succ, List.getElem?_cons_zero, Bool.not_true, Bool.not_false, Bool.false_eq_true, Bool.true_eq_false, eq_self, true_implies, false_implies, true_and, and_true, decide_true, decide_false, Int.zero_add, N.R_sl, N.R_it, R_oNone, R_oSome, wipeN, N.R_lst, N.R_mkF, N.R_mkT, N.R_meth, N.v_addT, Ri_rng1, Ri_rng2, Ri_seq, show TyT.tup.of (.tuple [a, b]) = true from rfl, List.length_cons, List.length_nil, show decide ((((0 + 1 + 1 : Nat)) : Int) = 2) = true from rfl, j1, j2, ha, hbl, R_retd, trim_self]
    rw [prkB_not (.inl (by cases a <;> first | rfl | cases hbl))]
  obtain ⟨i, rfl⟩ : ∃ i, a = .int i := by cases a <;> first | exact ⟨_, rfl⟩ | (cases hbl; done) | (cases ha; done)
  simp only [N.thn_nx, N.thn_rt, Rs_seq, Rs_set, Rs_ret, Rs_expr, Rs_nil, Rs_if, Rs_asg, Rs_aug, R_call, R_cons, R_nil, R_Var, R_C, R_bin, R_cmp, R_tcmp, R_tOr, R_tAnd, R_tNot, R_tVal, R_tTrue, R_ite, R_eAnd, R_eOr, R_eNot, R_neg, R_tup, R_isi, R_some, Rc_some, N.v_eq, N.v_ne, N.v_lt, N.v_le, N.v_gt, N.v_ge, N.v_add, N.v_sub, N.v_iadd, N.v_xor, N.v_int, N.tru_b, N.pd_d, N.data_nil, N.data_cons, N.len_t, N.v_tupT, N.g_name, N.isNone_n, N.isNone_t, N.isNone_i, N.v_isN, N.v_isNn, N.v_eqB, N.v_neB, List.set_cons_succ, List.set_cons_zero, List.getElem?_cons_succ, List.getElem?_cons_zero, Bool.not_true, Bool.not_false, Bool.false_eq_true, Bool.true_eq_false, eq_self, true_implies, false_implies, true_and, and_true, decide_true, decide_false, Int.zero_add, N.R_sl, N.R_it, R_oNone, R_oSome, wipeN, N.R_lst, N.R_mkF, N.R_mkT, N.R_meth, N.v_addT, Ri_rng1, Ri_rng2, Ri_seq, show TyT.tup.of (.tuple [.int i, b]) = true from rfl, List.length_cons, List.length_nil, show decide ((((0 + 1 + 1 : Nat)) : Int) = 2) = true from rfl, j1, j2, ha, hbl, R_chK]
  have fls : isN 1 12 (.int i) = false → R (N.ret false s (.d (.bool false)) s) fun y s' => y = .d (.bool (prkB (.tuple [.int i, b]))) ∧ s' = s := fun h => by
    rw [R_retd, trim_self, prkB_not (.inl h)]
    exact ⟨rfl, rfl⟩
  refine ⟨fun h1 => ⟨fun h2 => ⟨fun h3 => ?_, fun h3 => ?_⟩, fun h2 => ?_⟩, fun h1 => ?_⟩
  · have h3 : TyT.tup.of b = false := by simpa using h3
    rw [R_retd, trim_self, prkB_not (.inr h3)]
    exact ⟨rfl, rfl⟩
  · obtain ⟨xs, rfl⟩ : ∃ xs, b = .tuple xs := by
      rcases tup_or b with h | h
      · exact h
      · rw [h] at h3; cases h3
    have h1 : 1 ≤ i := of_decide_eq_true h1
    have h2 : i ≤ 12 := by simpa using h2
    obtain ⟨n, rfl⟩ : ∃ n : Nat, i = (n : Nat) := ⟨i.toNat, by omega⟩
    have hxl := hlen _ _ rfl
    have un : prkB (.tuple [.int (n : Nat), .tuple xs]) = (xs.all (isWB n) && ascP xs) := by
      show (isN 1 12 (.int (n : Nat)) && wysB ((n : Int).toNat) (.tuple xs)) = _
      rw [show isN 1 12 (.int (n : Nat)) = true from by simp [isN]; omega, Bool.true_and, Int.toNat_natCast]
      rfl
    have fls : ∀ {x : PyData}, x ∈ xs → isWB n x = false → R (N.ret false s (.d (.bool false)) s) fun y s' => y = .d (.bool (prkB (.tuple [.int (n : Nat), .tuple xs]))) ∧ s' = s := fun {x} hx h => by
      rw [R_retd, trim_self, un, show xs.all (isWB n) = false from by
        rw [List.all_eq_false]
        exact ⟨x, hx, by simp [h]⟩]
      exact ⟨rfl, rfl⟩
    refine Rs_for xs .d (fun k e s' => ∃ o2, (xs.take k).all (isWB n) = true ∧ s' = s ∧ e = [some (.d (.tuple [.int (n : Nat), .tuple xs])), none, o2, none]) ?_ (fun k x e s' hk hq => ?_) (fun e s' hq => ?_)
    · have hi : Ri (iSeq (eIt (eVar 0) (eC (.int 1))) [some (.d (.tuple [.int (n : Nat), .tuple xs])), none, none, none] s) fun items ck s1 => items = xs.map .d ∧ ck = none ∧ s1 = s := by
        rw [Ri_seq]
        simp only [Rs_nil, R_call, R_cons, R_nil, R_Var, R_C, R_bin, R_cmp, R_tcmp, R_tOr, R_tAnd, R_tNot, R_tVal, R_tTrue, R_ite, R_eAnd, R_eOr, R_eNot, R_neg, R_tup, R_isi, R_some, Rc_some, N.v_eq, N.v_ne, N.v_lt, N.v_le, N.v_gt, N.v_ge, N.v_add, N.v_sub, N.v_iadd, N.v_xor, N.v_int, N.tru_b, N.pd_d, N.data_nil, N.data_cons, N.len_t, N.v_tupT, N.g_name, N.isNone_n, N.isNone_t, N.isNone_i, N.v_isN, N.v_isNn, N.v_eqB, N.v_neB, List.set_cons_succ, List.set_cons_zero, List.getElem?_cons_succ, List.getElem?_cons_zero, Bool.not_true, Bool.not_false, Bool.false_eq_true, Bool.true_eq_false, eq_self, true_implies, false_implies, true_and, and_true, decide_true, decide_false, Int.zero_add, N.R_sl, N.R_it, R_oNone, R_oSome, wipeN, N.R_lst, N.R_mkF, N.R_mkT, N.R_meth, N.v_addT, Ri_rng1, Ri_rng2, Ri_seq, j2]
      exact hi.keep ⟨none, by simp, rfl, rfl⟩
    · obtain ⟨o2, hal, rfl, rfl⟩ := hq
      have hx : x ∈ xs := List.mem_of_getElem? hk
      have tk : xs.take (k + 1) = xs.take k ++ [x] := by
        rw [List.take_add_one, hk]
        rfl
      have no : dP n x = none → isWB n x = false := fun h => by unfold isWB; rw [h]
      rw [g_name, Rc_some, Rs_seq, Rs_if]
      rcases tup_or x with ⟨ys, rfl⟩ | hx2
      case inr =>
        simp only [N.thn_nx, N.thn_rt, Rs_seq, Rs_set, Rs_ret, Rs_expr, Rs_nil, Rs_if, Rs_asg, Rs_aug, R_call, R_cons, R_nil, R_Var, R_C, R_bin, R_cmp, R_tcmp, R_tOr, R_tAnd, R_tNot, R_tVal, R_tTrue, R_ite, R_eAnd, R_eOr, R_eNot, R_neg, R_tup, R_isi, R_some, Rc_some, N.v_eq, N.v_ne, N.v_lt, N.v_le, N.v_gt, N.v_ge, N.v_add, N.v_sub, N.v_iadd, N.v_xor, N.v_int, N.tru_b, N.pd_d, N.data_nil, N.data_cons, N.len_t, N.v_tupT, N.g_name, N.isNone_n, N.isNone_t, N.isNone_i, N.v_isN, N.v_isNn, N.v_eqB, N.v_neB, List.set_cons_succ, List.set_cons_zero, List.getElem?_cons_succ, List.getElem?_cons_zero, Bool.not_true, Bool.not_false, Bool.false_eq_true, Bool.true_eq_false, eq_self, true_implies, false_implies, true_and, and_true, decide_true, decide_false, Int.zero_add, N.R_sl, N.R_it, R_oNone, R_oSome, wipeN, N.R_lst, N.R_mkF, N.R_mkT, N.R_meth, N.v_addT, Ri_rng1, Ri_rng2, Ri_seq, hx2, aft_rt]
        exact fls hx (no (dP_not hx2))
      rcases two_or ys with ⟨a, b, rfl⟩ | hl
      case inr =>
        have hl2 : decide ((ys.length : Int) = 2) = false := by
          rw [decide_eq_false_iff_not]
          omega
        simp only [N.thn_nx, N.thn_rt, Rs_seq, Rs_set, Rs_ret, Rs_expr, Rs_nil, Rs_if, Rs_asg, Rs_aug, R_call, R_cons, R_nil, R_Var, R_C, R_bin, R_cmp, R_tcmp, R_tOr, R_tAnd, R_tNot, R_tVal, R_tTrue, R_ite, R_eAnd, R_eOr, R_eNot, R_neg, R_tup, R_isi, R_some, Rc_some, N.v_eq, N.v_ne, N.v_lt, N.v_le, N.v_gt, N.v_ge, N.v_add, N.v_sub, N.v_iadd, N.v_xor, N.v_int, N.tru_b, N.pd_d, N.data_nil, N.data_cons, N.len_t, N.v_tupT, N.g_name, N.isNone_n, N.isNone_t, N.isNone_i, N.v_isN, N.v_isNn, N.v_eqB, N.v_neB, List.set_cons_succ, List.set_cons_zero, List.getElem?_cons_succ, List.getElem?_cons_zero, Bool.not_true, Bool.not_false, Bool.false_eq_true, Bool.true_eq_false, eq_self, true_implies, false_implies, true_and, and_true, decide_true, decide_false, Int.zero_add, N.R_sl, N.R_it, R_oNone, R_oSome, wipeN, N.R_lst, N.R_mkF, N.R_mkT, N.R_meth, N.v_addT, Ri_rng1, Ri_rng2, Ri_seq, show TyT.tup.of (.tuple ys) = true from rfl, hl2, aft_rt]
        exact fls hx (no (dP_len hl))
      have i1 : ∀ s' : Sto, itF s' (.d (.tuple [a, b])) (.d (.int 0)) = some (.d a) := fun s' => it_1 rfl
      have i2 : ∀ s' : Sto, itF s' (.d (.tuple [a, b])) (.d (.int 1)) = some (.d b) := fun s' => it_2 rfl
      rw [R_tOr, R_tNot, R_tVal]
      simp only [R_isi, R_Var, List.set_cons_succ, List.set_cons_zero, List.getElem?_cons_succ, List.getElem?_cons_zero, N.pd_d, Rc_some, show TyT.tup.of (.tuple [a, b]) = true from rfl, N.tru_b, Bool.not_true, true_implies, Bool.false_eq_true, false_implies, and_true]
      rw [R_tOr, R_tcmp]
      simp only [R_call, R_cons, R_nil, R_Var, R_C, List.getElem?_cons_succ, List.getElem?_cons_zero, N.len_t, R_some, List.length_cons, List.length_nil, N.v_ne, show decide ((((0 + 1 + 1 : Nat)) : Int) = 2) = true from rfl, Bool.not_true, Rc_some, true_implies, Bool.false_eq_true, false_implies, and_true]
      rw [R_tOr, R_tNot, R_tVal, R_call, R_cons]
      refine R_lcmG [a, b] .d (fun x => .bool (isNl n x)) ?_ (fun x hx acc => ?_) (by simp [lim]) ?_
      · simp only [Rs_nil, R_call, R_cons, R_nil, R_Var, R_C, R_bin, R_cmp, R_tcmp, R_tOr, R_tAnd, R_tNot, R_tVal, R_tTrue, R_ite, R_eAnd, R_eOr, R_eNot, R_neg, R_tup, R_isi, R_some, Rc_some, N.v_eq, N.v_ne, N.v_lt, N.v_le, N.v_gt, N.v_ge, N.v_add, N.v_sub, N.v_iadd, N.v_xor, N.v_int, N.tru_b, N.pd_d, N.data_nil, N.data_cons, N.len_t, N.v_tupT, N.g_name, N.isNone_n, N.isNone_t, N.isNone_i, N.v_isN, N.v_isNn, N.v_eqB, N.v_neB, List.set_cons_succ, List.set_cons_zero, List.getElem?_cons_succ, List.getElem?_cons_zero, Bool.not_true, Bool.not_false, Bool.false_eq_true, Bool.true_eq_false, eq_self, true_implies, false_implies, true_and, and_true, decide_true, decide_false, Int.zero_add, N.R_sl, N.R_it, R_oNone, R_oSome, wipeN, N.R_lst, N.R_mkF, N.R_mkT, N.R_meth, N.v_addT, Ri_rng1, Ri_rng2, Ri_seq]
        exact CkA.none _
      · rw [g_name, Rc_some]
        exact R_place (b := .tuple xs) rfl rfl ⟨rfl, rfl⟩
      rw [R_nil, all_map, R_some, tru_b, Rc_some]
      refine ⟨fun hb => ?_, fun hb => ?_⟩
      · have hb : isN 0 ((n : Nat) - 1) a = true ∧ isN 0 ((n : Nat) - 1) b = true := by simpa [isNl] using hb
        obtain ⟨i, rfl, hi⟩ := (isN_iff (by omega) a).mp hb.1
        obtain ⟨j, rfl, hj⟩ := (isN_iff (by omega) b).mp hb.2
        have hd : dP n (.tuple [.int (i : Nat), .int (j : Nat)]) = some (i, j) := dP_pr (p := (i, j)) hi hj
        have hw : isWB n (.tuple [.int (i : Nat), .int (j : Nat)]) = decide (i < j) := by unfold isWB; rw [hd]
        simp only [N.thn_nx, N.thn_rt, Rs_seq, Rs_set, Rs_ret, Rs_expr, Rs_nil, Rs_if, Rs_asg, Rs_aug, R_call, R_cons, R_nil, R_Var, R_C, R_bin, R_cmp, R_tcmp, R_tOr, R_tAnd, R_tNot, R_tVal, R_tTrue, R_ite, R_eAnd, R_eOr, R_eNot, R_neg, R_tup, R_isi, R_some, Rc_some, N.v_eq, N.v_ne, N.v_lt, N.v_le, N.v_gt, N.v_ge, N.v_add, N.v_sub, N.v_iadd, N.v_xor, N.v_int, N.tru_b, N.pd_d, N.data_nil, N.data_cons, N.len_t, N.v_tupT, N.g_name, N.isNone_n, N.isNone_t, N.isNone_i, N.v_isN, N.v_isNn, N.v_eqB, N.v_neB, List.set_cons_succ, List.set_cons_zero, List.getElem?_cons_succ, List.getElem?_cons_zero, Bool.not_true, Bool.not_false, Bool.false_eq_true, Bool.true_eq_false, eq_self, true_implies, false_implies, true_and, and_true, decide_true, decide_false, Int.zero_add, N.R_sl, N.R_it, R_oNone, R_oSome, wipeN, N.R_lst, N.R_mkF, N.R_mkT, N.R_meth, N.v_addT, Ri_rng1, Ri_rng2, Ri_seq, i1, i2, aft_rt, aft_nx]
        refine ⟨fun h4 => ?_, fun h4 => ?_⟩
        · have h4 : ¬ i < j := by have := of_decide_eq_true h4; omega
          exact fls hx (by rw [hw]; exact decide_eq_false h4)
        · have h4 : i < j := by have := of_decide_eq_false h4; omega
          rw [trimE_len rfl]
          refine ⟨o2, ?_, rfl, by simp [wipeN]⟩
          rw [tk, List.all_append, hal]
          simp [hw, h4]
      · have hb : ¬ (isN 0 ((n : Nat) - 1) a = true ∧ isN 0 ((n : Nat) - 1) b = true) := fun h => by simp [isNl, h.1, h.2] at hb
        simp only [N.thn_nx, N.thn_rt, Rs_seq, Rs_set, Rs_ret, Rs_expr, Rs_nil, Rs_if, Rs_asg, Rs_aug, R_call, R_cons, R_nil, R_Var, R_C, R_bin, R_cmp, R_tcmp, R_tOr, R_tAnd, R_tNot, R_tVal, R_tTrue, R_ite, R_eAnd, R_eOr, R_eNot, R_neg, R_tup, R_isi, R_some, Rc_some, N.v_eq, N.v_ne, N.v_lt, N.v_le, N.v_gt, N.v_ge, N.v_add, N.v_sub, N.v_iadd, N.v_xor, N.v_int, N.tru_b, N.pd_d, N.data_nil, N.data_cons, N.len_t, N.v_tupT, N.g_name, N.isNone_n, N.isNone_t, N.isNone_i, N.v_isN, N.v_isNn, N.v_eqB, N.v_neB, List.set_cons_succ, List.set_cons_zero, List.getElem?_cons_succ, List.getElem?_cons_zero, Bool.not_true, Bool.not_false, Bool.false_eq_true, Bool.true_eq_false, eq_self, true_implies, false_implies, true_and, and_true, decide_true, decide_false, Int.zero_add, N.R_sl, N.R_it, R_oNone, R_oSome, wipeN, N.R_lst, N.R_mkF, N.R_mkT, N.R_meth, N.v_addT, Ri_rng1, Ri_rng2, Ri_seq, aft_rt]
        refine fls hx (no ?_)
        rcases hd : dP n (.tuple [a, b]) with _ | p
        · rfl
        · obtain ⟨e1, e2, e3⟩ := dP_iff.mp hd
          cases e1
          exact (hb ⟨(isN_iff (by omega) _).mpr ⟨_, rfl, e2⟩, (isN_iff (by omega) _).mpr ⟨_, rfl, e3⟩⟩).elim
    · obtain ⟨o2, hal, rfl, rfl⟩ := hq
      rw [List.take_length] at hal
      obtain ⟨es, rfl⟩ := ways_dec hal
      rw [N.thn_nx, Rs_seq, Rs_ret]
      refine asc_rowP (by simpa using hxl) (fun s' => m_of ?_) (fun d s' => m_of ?_) (fun d => rfl) ?_
      · simp only [Rs_nil, R_call, R_cons, R_nil, R_Var, R_C, R_bin, R_cmp, R_tcmp, R_tOr, R_tAnd, R_tNot, R_tVal, R_tTrue, R_ite, R_eAnd, R_eOr, R_eNot, R_neg, R_tup, R_isi, R_some, Rc_some, N.v_eq, N.v_ne, N.v_lt, N.v_le, N.v_gt, N.v_ge, N.v_add, N.v_sub, N.v_iadd, N.v_xor, N.v_int, N.tru_b, N.pd_d, N.data_nil, N.data_cons, N.len_t, N.v_tupT, N.g_name, N.isNone_n, N.isNone_t, N.isNone_i, N.v_isN, N.v_isNn, N.v_eqB, N.v_neB, List.set_cons_succ, List.set_cons_zero, List.getElem?_cons_succ, List.getElem?_cons_zero, Bool.not_true, Bool.not_false, Bool.false_eq_true, Bool.true_eq_false, eq_self, true_implies, false_implies, true_and, and_true, decide_true, decide_false, Int.zero_add, N.R_sl, N.R_it, R_oNone, R_oSome, wipeN, N.R_lst, N.R_mkF, N.R_mkT, N.R_meth, N.v_addT, Ri_rng1, Ri_rng2, Ri_seq, j2]
      · simp only [Rs_nil, R_call, R_cons, R_nil, R_Var, R_C, R_bin, R_cmp, R_tcmp, R_tOr, R_tAnd, R_tNot, R_tVal, R_tTrue, R_ite, R_eAnd, R_eOr, R_eNot, R_neg, R_tup, R_isi, R_some, Rc_some, N.v_eq, N.v_ne, N.v_lt, N.v_le, N.v_gt, N.v_ge, N.v_add, N.v_sub, N.v_iadd, N.v_xor, N.v_int, N.tru_b, N.pd_d, N.data_nil, N.data_cons, N.len_t, N.v_tupT, N.g_name, N.isNone_n, N.isNone_t, N.isNone_i, N.v_isN, N.v_isNn, N.v_eqB, N.v_neB, List.set_cons_succ, List.set_cons_zero, List.getElem?_cons_succ, List.getElem?_cons_zero, Bool.not_true, Bool.not_false, Bool.false_eq_true, Bool.true_eq_false, eq_self, true_implies, false_implies, true_and, and_true, decide_true, decide_false, Int.zero_add, N.R_sl, N.R_it, R_oNone, R_oSome, wipeN, N.R_lst, N.R_mkF, N.R_mkT, N.R_meth, N.v_addT, Ri_rng1, Ri_rng2, Ri_seq, j2]
      · simp only [N.thn_rt, R_retd, trim_self, un, hal, Bool.true_and]
        exact ⟨by trivial, by trivial⟩
  · exact fls (by simp [isN]; intro _; simpa using h2)
  · exact fls (by simp [isN]; intro h; simp at h1; omega)
end T72

namespace N
open PySem L2 PyProof.Rows

theorem R_bents {rest s : Sto} (t : BS rest s) (f : Flat rest) {x : PyData} {kk : Nat} (hk4 : kk ≤ 4) (hx : bnt 100 kk x) {kt b v m : Nat} (hm : m ≤ 100) {e : Lo} {Q : D → Sto → Prop} (hb : ∀ d, ((wipeN e [kt]).set kt (some d))[b]? = some (some (.r 1))) (hv : ∀ d, ((wipeN e [kt]).set kt (some d))[v]? = some (some (.d x)))
    (q : ∀ acc s', acc.length = m → (∀ z ∈ acc, wd 102 6 z) → BS rest s' → Q (.d (.list acc)) s') : R (eLc false [kt] (iRng1 (aCons (eC (.int (m : Nat))) aNil)) (gName kt) tTrue (eCall (m__law_bent 6) (aCons (eVar b) (aCons (eVar v) aNil))) e s) Q := by
  refine R_lcI (List.range m) (fun k => .d (.int (k : Nat))) s.length (fun k acc s' => BS rest s' ∧ acc.length = k ∧ ∀ z ∈ acc, wd 102 6 z) ((rngI1 (n := m) (by omega) rfl).keep ⟨t, rfl, by simp⟩) (fun k acc s' hq => ?_) (fun k y acc s' hy hq => ?_) (by simp [lim]; omega) (fun acc s' hq => ?_)
  · exact ⟨by rw [hq.1.len, t.len], hq.1.wf f⟩
  · obtain ⟨t11, hal, haw⟩ := hq
    rw [g_name, Rc_some, R_tTrue]
    refine ⟨fun h => (by cases h), fun _ => ?_⟩
    simp only [R_call, R_cons, R_nil, R_Var, hb, hv]
    have t12 := t11.app [Cell.lst (acc.map D.d)]
    have f12 : Flat (rest ++ [Cell.lst (acc.map D.d)]) := flat_snoc f (lst_bel _)
    refine R.imp (lawbent_ok f12 (B := 100) (by decide) (by decide) kk 6 x _ (by omega) t12 hx) fun d s14 hh => ?_
    obtain ⟨z, rfl, hz, t13⟩ := hh
    obtain ⟨s15, rfl, t14⟩ := BS.unapp (g := [Cell.lst (acc.map D.d)]) t13
    refine ⟨z, s15, rfl, rfl, t14, by simp [hal], fun y hy => ?_⟩
    rcases List.mem_append.mp hy with hy | hy
    · exact haw y hy
    · rw [List.mem_singleton.mp hy]; exact wd_up (by decide) (by omega) hz
  · obtain ⟨t11, hal, haw⟩ := hq
    rw [List.length_range] at hal
    exact q acc s' hal haw t11
theorem Rs_forJ {α : Type} (enc : α → D) (J : List α → Lo → Sto → Prop) {mi : MI} {g : MG} {M : MS} {dead : List Nat} {e : Lo} {s : Sto} {Qs : Fl → Lo → Sto → Prop} (hi : Ri (mi e s) fun items ck s1 => ∃ l : List α, items = l.map enc ∧ ck = none ∧ J l e s1)
    (h : ∀ l e s1, J l e s1 → Rs (sFor (fun _ s => some (l.map enc, none, s)) g M dead e s1) Qs) : Rs (sFor mi g M dead e s) Qs := by
  obtain ⟨_, _, s1, h1, l, rfl, rfl, hj⟩ := hi
  have := h l e s1 hj
  unfold sFor at this ⊢
  simp only [h1]
  exact this
theorem wd_len {B k : Nat} {xs : List PyData} (h : wd B k (.tuple xs)) : xs.length ≤ B := by
  cases k with
  | zero => exact h.elim
  | succ k => exact h.1
end N

namespace T72
open PySem L2 PyProof.Rows N
section
variable {n : Nat} {es : List (Nat × Nat)} {rest s : Sto}
theorem win_one {L : List Nat} (l : LOk n es L) (h : L.length = 1) : winB n es = true := by
  unfold winB
  rw [@decide_eq_true_eq _ (Classical.propDecidable _)]
  exact l.one (by omega)
theorem win_not {L : List Nat} (l : LOk n es L) (h : 1 < L.length) (hc : csP n es L = []) : winB n es = false := by
  unfold winB
  rw [@decide_eq_false_iff_not _ (Classical.propDecidable _)]
  exact l.stuck hc h
theorem win_left {L : List Nat} (l : LOk n es L) (hc : 1 < L.length → csP n es L = []) : decide (L.length = 1) = winB n es := by
  by_cases h : L.length = 1
  · rw [win_one l h, decide_eq_true h]
  · have := List.length_pos_iff.mpr l.ne
    rw [decide_eq_false h, win_not l (by omega) (hc (by omega))]
/-- what is told by taking apart -/
theorem told_ok (h0 : 0 < n) : ∃ (P : List (Nat × Nat)) (M : List Nat), taD n es = .tuple [wordP (winB n es), .tuple (P.map prP)] ∧ leftX n es (P.map prP) (List.range n) = some M ∧ LOk n es M ∧ (1 < M.length → csP n es M = []) := by
  obtain ⟨M, h1, l, h2, h3⟩ := ta_ok (es := es) n (List.range n) [] (by simp) (LOk.start h0) rfl
  have hc : 1 < M.length → csP n es M = [] := fun h => by
    cases hb : (taP n es n (List.range n) []).1 with
    | true => have := h2 hb; omega
    | false => exact (h3 hb).1
  refine ⟨(taP n es n (List.range n) []).2, M, ?_, h1, l, hc⟩
  unfold taD
  congr 3
  rw [← win_left l hc]
  cases hb : (taP n es n (List.range n) []).1 with
  | true => rw [decide_eq_true (h2 hb)]
  | false => rw [decide_eq_false (by have := (h3 hb).2; omega)]
theorem ap_win {x : PyData} (h0 : 0 < n) (h : apB n es x = true) : winB n es = true := by
  unfold apB at h
  rcases e : lbD n es x with _ | L
  · rw [e] at h; cases h
  · rw [e] at h
    exact win_one (lbD_ok h0 e) (of_decide_eq_true h)
theorem sk_win {x : PyData} (h0 : 0 < n) (h : skB n es x = true) : winB n es = false := by
  unfold skB at h
  rcases e : lbD n es x with _ | L
  · rw [e] at h; cases h
  · rw [e] at h
    simp only [Bool.and_eq_true, decide_eq_true_eq] at h
    exact win_not (lbD_ok h0 e) h.1 h.2
theorem sok_word (b : Bool) : sok 6 (wordP b) := by unfold sok wordP; trivial
theorem sok_stD (hn : n ≤ 100) (p : Nat) : sok 6 (stD n es p) := by
  unfold stD
  refine sok_tup (by simp [lim]; omega) fun x hx => ?_
  obtain ⟨v, _, rfl⟩ := List.mem_map.mp hx
  unfold stV
  split
  · unfold sok fD; trivial
  · unfold sok; trivial
theorem sok_prs (L : List (Nat × Nat)) (h : L.length ≤ 10000) : sok 6 (.tuple (L.map prP)) := by
  refine sok_tup (by simp [lim]; omega) fun x hx => ?_
  obtain ⟨e, _, rfl⟩ := List.mem_map.mp hx
  refine sok_tup (by simp [lim]) fun x hx => ?_
  simp only [List.mem_cons, List.not_mem_nil, or_false] at hx
  rcases hx with rfl | rfl <;> exact sok_int _ _
theorem sok_rows (hn : n ≤ 100) : sok 6 (.tuple ((rwP n es).map tup)) := by
  refine sok_tup (by simp [lim, rw_len]; omega) fun x hx => ?_
  obtain ⟨r, hr, rfl⟩ := List.mem_map.mp hx
  unfold rwP at hr
  obtain ⟨v, _, rfl⟩ := List.mem_map.mp hr
  have := nb_len n es v
  refine sok_tup (by simp [nt, lim]; omega) fun x hx => ?_
  obtain ⟨k, _, rfl⟩ := List.mem_map.mp hx
  exact sok_int _ _
theorem R_tsameF {x y : ME} {e : Lo} {s : Sto} {Qt : Bool → Sto → Prop} (h : R (x e s) fun d s1 => R (y e s1) fun d2 s2 => ∃ z, d = .d z ∧ d2 = .d z ∧ sok 6 z ∧ Qt false s2) : R (tNot (tVal (eCall (m__law_same 6) (aCons x (aCons y aNil)))) e s) Qt := by
  obtain ⟨_, s1, h1, _, s2, h2, z, rfl, rfl, h3, h4⟩ := h
  rw [R_tNot, R_tVal, R_call, R_cons, h1, R_some, R_cons, h2, R_some, R_nil]
  refine R_same h3 ?_
  rw [tru_b, Rc_some]
  exact h4
def VW (x : PyData) : Prop := ∀ xs, x = .tuple xs → xs.length ≤ 1000
theorem VW.wd {B k : Nat} {x : PyData} (h : wd B k x) (hB : B ≤ 1000) : VW x := fun xs e => by
  subst e
  exact Nat.le_trans (wd_len h) hB
/-- one value: both judges -/
theorem value_ok (G : Pkr n es) (h0 : 0 < n) (hn : n ≤ 7) {x : PyData} (hx : VW x) {e : Lo} {s : Sto} {Qs : Fl → Lo → Sto → Prop} (e1 : e[1]? = some (some (.d (parD n es)))) (e2 : e[2]? = some (some (.d (rwL n es)))) (e3 : e[3]? = some (some (.d (.bool (winB n es))))) (e13 : e[13]? = some (some (.d x))) (h17 : e.length = 17) (q : ∀ d15 d16, Qs .nx ((e.set 15 (some d15)).set 16 (some d16)) s) :
    Rs ((sSeq (sSet 15 (eCall m__law_left (aCons (eVar 1) (aCons (eVar 13) aNil))))
  (sSeq (sSet 16 (eTup (aCons (eAnd (eCmp (cIsN true) (eVar 15) (eC .none)) (eCmp cEq (eCall bLen (aCons (eVar 15) aNil)) (eC (.int 1)))) (aCons (eAnd (eCmp (cIsN true) (eVar 15) (eC .none)) (eAnd (eCmp cGt (eCall bLen (aCons (eVar 15) aNil)) (eC (.int 1))) (eCmp cEq (eCall m__law_corners (aCons (eVar 2) (aCons (eVar 15) aNil))) (eLst false aNil)))) aNil))))
  (sSeq (sIf (tOr (tNot (tVal (eCall (m__law_same 6) (aCons (eTup (aCons (eCall m_is_apart (aCons (eVar 1) (aCons (eVar 13) aNil))) (aCons (eCall m_is_stuck (aCons (eVar 1) (aCons (eVar 13) aNil))) aNil))) (aCons (eVar 16) aNil))))) (tOr (tAnd (tVal (eIt (eVar 16) (eC (.int 0)))) (tNot (tVal (eVar 3)))) (tAnd (tVal (eIt (eVar 16) (eC (.int 1)))) (tVal (eVar 3))))) (sSeq (sRet (eC (.bool false)))
  sNil) sNil)
  sNil))) e s) Qs := by
  have l2 := G.len
  have hes : es.length ≤ 10000 := Nat.le_trans l2 (Nat.mul_le_mul (by omega : n ≤ 100) (by omega : n ≤ 100))
  rw [Rs_seq, Rs_set]
  simp only [R_call, R_cons, R_nil, R_Var, e1, e13, lawleft_ok G h0 (show n ≤ 100 by omega) (fun xs h => Nat.le_trans (hx xs h) (by decide)), R_some]
  rw [N.thn_nx, Rs_seq, Rs_set]
  have f1 : ∀ d, (e.set 15 (some d))[15]? = some (some d) := fun d => by rw [List.getElem?_set_self (by omega)]
  have g1 : ∀ d, (e.set 15 (some d))[1]? = some (some (.d (parD n es))) := fun d => by rw [List.getElem?_set_ne (by decide), e1]
  have g2 : ∀ d, (e.set 15 (some d))[2]? = some (some (.d (rwL n es))) := fun d => by rw [List.getElem?_set_ne (by decide), e2]
  have g3 : ∀ d, (e.set 15 (some d))[3]? = some (some (.d (.bool (winB n es)))) := fun d => by rw [List.getElem?_set_ne (by decide), e3]
  have g13 : ∀ d, (e.set 15 (some d))[13]? = some (some (.d x)) := fun d => by rw [List.getElem?_set_ne (by decide), e13]
  have due : ∀ s', R (eTup (aCons (eAnd (eCmp (cIsN true) (eVar 15) (eC .none)) (eCmp cEq (eCall bLen (aCons (eVar 15) aNil)) (eC (.int 1)))) (aCons (eAnd (eCmp (cIsN true) (eVar 15) (eC .none)) (eAnd (eCmp cGt (eCall bLen (aCons (eVar 15) aNil)) (eC (.int 1))) (eCmp cEq (eCall m__law_corners (aCons (eVar 2) (aCons (eVar 15) aNil))) (eLst false aNil)))) aNil)) (e.set 15 (some (.d (lbV n es x)))) s') fun d s1 => d = .d (.tuple [.bool (apB n es x), .bool (skB n es x)]) ∧ s1 = s' := fun s' => by
    rw [R_tup, R_cons]
    unfold lbV apB skB
    rcases h : lbD n es x with _ | L
    · simp only [R_eAnd, R_cmp, R_Var, f1, R_C, N.v_isNn, N.isNone_n, Bool.not_true, Rc_some, N.tru_b, Bool.false_eq_true, false_implies, true_implies, true_and, R_cons, R_nil, N.data_cons, N.data_nil, List.length_cons, List.length_nil]
      simp [lim]
    · have l := lbD_ok h0 h
      have hl := lbD_len h
      have ll : LL s' (.d (.list (nt L))) (nt L) := .inr (.inl rfl)
      simp only [R_eAnd, R_cmp, R_Var, f1, R_C, N.v_isNn, N.isNone_l, Bool.not_false, Rc_some, N.tru_b, true_implies, Bool.true_eq_false, false_implies, and_true, R_call, R_cons, R_nil, len_l, R_some, N.v_eq, N.v_gt, g2, lawcorners_ok ll l.lt hl (show n ≤ 100 by omega), R_lst, R_mkF, N.data_nil, List.length_nil]
      have e9 : ((nt L).length : Int) = (L.length : Nat) := by simp [nt]
      rw [e9]
      have a1 : decide (((L.length : Nat) : Int) = 1) = decide (L.length = 1) := decide_eq_decide.mpr (by omega)
      rw [a1]
      refine ⟨fun hb => ⟨by simp [lim], ?_⟩, fun hb => ?_⟩
      · have hb : 1 < L.length := by have := of_decide_eq_true hb; omega
        rw [v_eqP (x := .list ((csP n es L).map prP)) (y := .list []) rfl rfl (by simpa [pk] using pk_prs (csP n es L)) rfl (by simp [PyData.depth, PyData.depthAll]), Rc_some]
        simp only [R_nil, N.data_cons, N.data_nil, Rc_some]
        refine ⟨by simp [lim], ?_⟩
        rw [decide_eq_true hb, Bool.true_and]
        congr 5
        exact decide_eq_decide.mpr ⟨fun e => by injection e with e; simpa using e, fun e => by rw [e]; rfl⟩
      · have hb : ¬ 1 < L.length := by have := of_decide_eq_false hb; omega
        simp only [R_nil, N.data_cons, N.data_nil, Rc_some]
        refine ⟨by simp [lim], ?_⟩
        rw [decide_eq_false hb, Bool.false_and]
        rw [show decide (1 < ((L.length : Nat) : Int)) = false from decide_eq_false (by omega)]
  obtain ⟨_, _, h1, rfl, rfl⟩ := due s
  rw [h1, R_some]
  have k1 : ∀ d c, ((e.set 15 (some d)).set 16 (some c))[1]? = some (some (.d (parD n es))) := fun d c => by rw [List.getElem?_set_ne (by decide), g1]
  have k3 : ∀ d c, ((e.set 15 (some d)).set 16 (some c))[3]? = some (some (.d (.bool (winB n es)))) := fun d c => by rw [List.getElem?_set_ne (by decide), g3]
  have k13 : ∀ d c, ((e.set 15 (some d)).set 16 (some c))[13]? = some (some (.d x)) := fun d c => by rw [List.getElem?_set_ne (by decide), g13]
  have k16 : ∀ d c, ((e.set 15 (some d)).set 16 (some c))[16]? = some (some c) := fun d c => by rw [List.getElem?_set_self (by rw [List.length_set]; omega)]
  rw [N.thn_nx, Rs_seq, Rs_if, R_tOr]
  refine R_tsameF ?_
  simp only [R_tup, R_call, R_cons, R_nil, R_Var, k1, k13, k16, apart_ok G h0 (show n ≤ 100 by omega) hes, stuck_ok G h0 (show n ≤ 100 by omega) hes, R_some, N.data_cons, N.data_nil, Rc_some]
  refine ⟨by simp [lim], _, rfl, rfl, sok_tup (by simp [lim]) fun y hy => ?_, fun _ => ?_, fun h => (by cases h)⟩
  · simp only [List.mem_cons, List.not_mem_nil, or_false] at hy
    rcases hy with rfl | rfl <;> (unfold sok; trivial)
  have i1 : ∀ s' : Sto, itF s' (.d (.tuple [.bool (apB n es x), .bool (skB n es x)])) (.d (.int 0)) = some (.d (.bool (apB n es x))) := fun s' => it_1 rfl
  have i2 : ∀ s' : Sto, itF s' (.d (.tuple [.bool (apB n es x), .bool (skB n es x)])) (.d (.int 1)) = some (.d (.bool (skB n es x))) := fun s' => it_2 rfl
  simp only [R_tOr, R_tAnd, R_tNot, R_tVal, R_it, R_Var, R_C, k16, k3, i1, i2, Rc_some, N.tru_b]
  refine ⟨fun ha => ?_, fun _ => ?_⟩
  · have hw := ap_win h0 ha
    rw [hw]
    exact ⟨fun _ => ⟨fun hk => (by rw [sk_win h0 hk] at hw; cases hw), fun _ => ⟨fun h => (by cases h), fun _ => by rw [Rs_nil, N.thn_nx, Rs_nil]; exact q _ _⟩⟩, fun h => (by cases h)⟩
  · refine ⟨fun _ => ⟨fun hk => ?_, fun _ => ⟨fun h => (by cases h), fun _ => by rw [Rs_nil, N.thn_nx, Rs_nil]; exact q _ _⟩⟩, fun h => (by cases h)⟩
    have hw := sk_win h0 hk
    rw [hw]
    exact ⟨fun h => (by cases h), fun _ => by rw [Rs_nil, N.thn_nx, Rs_nil]; exact q _ _⟩
end
end T72

namespace T72
open PySem L2 PyProof.Rows N
section
variable {n : Nat} {es : List (Nat × Nat)} {rest s : Sto}
theorem bnt_prs {F : List (Nat × Nat)} (hl : F.length ≤ 100) (h : ∀ p ∈ F, p.1 < 100 ∧ p.2 < 100) : bnt 100 3 (.tuple (F.map prP)) := by
  refine ⟨by rw [List.length_map]; exact hl, fun x hx => ?_⟩
  obtain ⟨p, hp, rfl⟩ := List.mem_map.mp hx
  refine ⟨by simp, fun y hy => ?_⟩
  have := h p hp
  simp only [List.mem_cons, List.not_mem_nil, or_false] at hy
  rcases hy with rfl | rfl
  · exact Nat.lt_of_le_of_lt (show _ ≤ 100 by omega) (by decide)
  · exact Nat.lt_of_le_of_lt (show _ ≤ 100 by omega) (by decide)
theorem leftX_cnt : ∀ {xs : List PyData} {L M : List Nat}, leftX n es xs L = some M → xs.length + M.length = L.length
  | [], L, M, e => by cases e; simp
  | x :: xs, L, M, e => by
    unfold leftX at e
    split at e
    · rename_i p _
      split at e
      · rename_i hc
        have := leftX_cnt e
        rw [List.length_erase_of_mem hc.1] at this
        have := List.length_pos_of_mem hc.1
        rw [List.length_cons]
        omega
      · cases e
    · cases e
theorem VW_list {P : List PyData} (h : P.length ≤ 1000) : VW (.tuple P) := fun xs e => by injection e with e; rw [← e]; exact h
theorem vals1_ok {P F : List (Nat × Nat)} {w : PyData} (hP : P.length ≤ 7) (hF : F.length ≤ 7) {e : Lo} {s : Sto} (e1 : ∀ d, ((wipeN e [12]).set 12 (some d)).length = 17 → True) (e4 : e[4]? = some (some (.d (.tuple [w, .tuple (P.map prP)])))) (e5 : e[5]? = some (some (.d (.tuple (F.map prP))))) (ep : e[1]? = some (some (.d (parD n es)))) (h17 : e.length = 17) :
    R (eLst false (aCons (eIt (eVar 4) (eC (.int 1))) (aCons (eVar 5) (aCons (eSl false (eVar 5) (oSome (eC (.int 1))) oNone) (aCons (eSl false (eVar 5) oNone (oSome (eNeg (eC (.int 1))))) (aCons (eRev false (eVar 5)) (aCons (eBin (oAdd false) (eVar 5) (eSl false (eVar 5) oNone (oSome (eC (.int 1))))) (aCons (eTup aNil) (aCons (eC .none) (aCons (eIt (eVar 1) (eC (.int 0))) (aCons (eC (.str "apart")) (aCons (eTup (aCons (eTup (aCons (eC (.int 0)) (aCons (eC (.int 0)) aNil))) aNil)) (aCons (eTup (aCons (eTup (aCons (eC (.int 0)) (aCons (eC (.int 1)) aNil))) aNil)) (aCons (eCall bTuple (aCons (eLc false [12] (iSeq (eVar 5)) (gName 12) tTrue (eRev false (eVar 12))) aNil)) aNil))))))))))))) e s) fun d s1 => ∃ vs, d = .d (.list vs) ∧ vs.length ≤ 20 ∧ (∀ x ∈ vs, VW x) ∧ s1 = s := by
  have it4 : ∀ s' : Sto, itF s' (.d (.tuple [w, .tuple (P.map prP)])) (.d (.int 1)) = some (.d (.tuple (P.map prP))) := fun s' => it_2 rfl
  have cl := fun lo hi => cutD_len (F.map prP) lo hi
  simp only [List.length_map] at cl
  simp only [R_lst, R_cons, R_nil, R_it, R_Var, R_C, R_sl, R_oSome, R_oNone, R_neg, R_rev, R_bin, R_tup, N.v_addT, e4, e5, ep, it4, fst_par, Rc_some, R_some, N.data_cons, N.data_nil, R_call, List.length_cons, List.length_nil]
  have := cl none (some 1)
  refine ⟨by simp only [lim, List.length_map]; omega, by simp [lim], by simp [lim], by simp [lim], by simp [lim], by simp [lim], ?_⟩
  refine R_lcmG (F.map prP) .d (fun x => match x with
    | .tuple xs => .tuple xs.reverse
    | _ => .none) ⟨_, _, _, by unfold iSeq eVar; simp only [e5], rfl, CkA.none _, rfl⟩ (fun x hx acc => ?_) (by rw [List.length_map]; simp only [lim]; omega) ?_
  · obtain ⟨p, hp, rfl⟩ := List.mem_map.mp hx
    rw [g_name, Rc_some, R_rev, R_Var]
    have : ((wipeN e [12]).set 12 (some (D.d (prP p))))[12]? = some (some (.d (prP p))) := by
      rw [List.getElem?_set_self (by simp [wipeN, h17])]
    rw [this]
    exact ⟨rfl, rfl⟩
  · simp only [v_tupL, R_some, R_mkF, N.data_cons, N.data_nil, Rc_some]
    refine ⟨by simp [lim], _, rfl, by simp, fun x hx => ?_, by trivial⟩
    simp only [List.mem_cons, List.not_mem_nil, or_false] at hx
    have nott : ∀ {x : PyData}, TyT.tup.of x = false → VW x := fun {x} h xs e => by rw [e] at h; cases h
    have c1 := cl (some 1) none
    have c2 := cl none (some (-1))
    rcases hx with rfl | rfl | rfl | rfl | rfl | rfl | rfl | rfl | rfl | rfl | rfl | rfl | rfl
    · exact VW_list (by rw [List.length_map]; omega)
    · exact VW_list (by rw [List.length_map]; omega)
    · exact VW_list (by omega)
    · exact VW_list (by omega)
    · exact VW_list (by rw [List.length_reverse, List.length_map]; omega)
    · exact VW_list (by rw [List.length_append, List.length_map]; omega)
    · exact VW_list (by simp)
    · exact nott rfl
    · exact nott rfl
    · exact nott rfl
    · exact VW_list (by simp)
    · exact VW_list (by simp)
    · exact VW_list (by rw [List.length_map, List.length_map]; omega)
noncomputable abbrev eF (n : Nat) (es : List (Nat × Nat)) (d4 d5 d6 d7 d8 d9 d11 : D) : Lo := [some (.r 1), some (.d (parD n es)), some (.d (rwL n es)), some (.d (.bool (winB n es))), some d4, some d5, some d6, some d7, some d8, some d9, none, some d11, none, none, none, none, none]
theorem loop1_ok (t : BS rest s) (f : Flat rest) (G : Pkr n es) (h0 : 0 < n) (hn : n ≤ 7) {F : List (Nat × Nat)} (hF : F.length ≤ 7) (hFn : ∀ p ∈ F, p.1 < n ∧ p.2 < n) {vs : List PyData} (hvl : vs.length ≤ 20) (hvs : ∀ x ∈ vs, VW x) {d4 d6 d7 d8 d9 : D} {Qs : Fl → Lo → Sto → Prop} (q : ∀ s', BS rest s' → Qs .nx (eF n es d4 (.d (.tuple (F.map prP))) d6 d7 d8 d9 (.d (.list vs))) s') :
    Rs (sFor (iSeq (eBin (oAdd false) (eVar 11) (eLc false [14] (iRng1 (aCons (eC (.int 8)) aNil)) (gName 14) tTrue (eCall (m__law_bent 6) (aCons (eVar 0) (aCons (eVar 5) aNil)))))) (gName 13) (sSeq (sSet 15 (eCall m__law_left (aCons (eVar 1) (aCons (eVar 13) aNil))))
  (sSeq (sSet 16 (eTup (aCons (eAnd (eCmp (cIsN true) (eVar 15) (eC .none)) (eCmp cEq (eCall bLen (aCons (eVar 15) aNil)) (eC (.int 1)))) (aCons (eAnd (eCmp (cIsN true) (eVar 15) (eC .none)) (eAnd (eCmp cGt (eCall bLen (aCons (eVar 15) aNil)) (eC (.int 1))) (eCmp cEq (eCall m__law_corners (aCons (eVar 2) (aCons (eVar 15) aNil))) (eLst false aNil)))) aNil))))
  (sSeq (sIf (tOr (tNot (tVal (eCall (m__law_same 6) (aCons (eTup (aCons (eCall m_is_apart (aCons (eVar 1) (aCons (eVar 13) aNil))) (aCons (eCall m_is_stuck (aCons (eVar 1) (aCons (eVar 13) aNil))) aNil))) (aCons (eVar 16) aNil))))) (tOr (tAnd (tVal (eIt (eVar 16) (eC (.int 0)))) (tNot (tVal (eVar 3)))) (tAnd (tVal (eIt (eVar 16) (eC (.int 1)))) (tVal (eVar 3))))) (sSeq (sRet (eC (.bool false)))
  sNil) sNil)
  sNil))) [13, 15, 16] (eF n es d4 (.d (.tuple (F.map prP))) d6 d7 d8 d9 (.d (.list vs))) s) Qs := by
  have hx : bnt 100 3 (.tuple (F.map prP)) := bnt_prs (by omega) fun p hp => by have := hFn p hp; omega
  refine Rs_forJ (fun (x : PyData) => .d x) (fun l e s1 => (∀ x ∈ l, VW x) ∧ BS rest s1 ∧ e = eF n es d4 (.d (.tuple (F.map prP))) d6 d7 d8 d9 (.d (.list vs))) ?_ (fun l e s1 hq => ?_)
  · rw [Ri_seq, R_bin, R_Var]
    simp only [List.getElem?_cons_succ, List.getElem?_cons_zero]
    refine R_bents (m := 8) t f (by omega) hx (by omega) (fun d => rfl) (fun d => rfl) fun acc s' hal haw t1 => ?_
    rw [v_addLL]
    refine ⟨by simp only [lim]; omega, vs ++ acc, by trivial, by trivial, fun x hx => ?_, t1, by trivial⟩
    rcases List.mem_append.mp hx with hx | hx
    · exact hvs x hx
    · exact VW.wd (haw x hx) (by decide)
  · obtain ⟨hl, t1, rfl⟩ := hq
    refine Rs_for l (fun x => .d x) (fun k e s' => BS rest s' ∧ e = eF n es d4 (.d (.tuple (F.map prP))) d6 d7 d8 d9 (.d (.list vs))) ⟨_, _, _, rfl, rfl, rfl, t1, rfl⟩ (fun k x e s' hk hq => ?_) (fun e s' hq => ?_)
    · obtain ⟨t2, rfl⟩ := hq
      rw [g_name, Rc_some]
      refine value_ok G h0 hn (hl x (List.mem_of_getElem? hk)) rfl rfl rfl rfl rfl fun d15 d16 => ?_
      rw [aft_nx, trimE_len rfl]
      exact ⟨t2, by simp [wipeN]⟩
    · obtain ⟨t2, rfl⟩ := hq
      exact q s' t2
def VP (x : PyData) : Prop := ∀ a xs, x = .tuple [a, .tuple xs] → xs.length ≤ 1000
theorem VP.wd {B k : Nat} {x : PyData} (h : wd B k x) (hB : B ≤ 1000) : VP x := fun a xs e => by
  subst e
  cases k with
  | zero => exact h.elim
  | succ k => exact Nat.le_trans (wd_len (h.2 (.tuple xs) (by simp))) hB
theorem vals2_ok (hl : es.length ≤ 1000) {e : Lo} {s : Sto} (ep : e[1]? = some (some (.d (parD n es)))) :
    R (eLst false (aCons (eVar 1) (aCons (eRev false (eVar 1)) (aCons (eTup (aCons (eBin (oAdd false) (eIt (eVar 1) (eC (.int 0))) (eC (.int 1))) (aCons (eIt (eVar 1) (eC (.int 1))) aNil))) (aCons (eTup (aCons (eBin oSub (eIt (eVar 1) (eC (.int 0))) (eC (.int 1))) (aCons (eIt (eVar 1) (eC (.int 1))) aNil))) (aCons (eTup (aCons (eC (.int 12)) (aCons (eIt (eVar 1) (eC (.int 1))) aNil))) (aCons (eTup (aCons (eC (.int 13)) (aCons (eIt (eVar 1) (eC (.int 1))) aNil))) (aCons (eTup (aCons (eIt (eVar 1) (eC (.int 0))) (aCons (eRev false (eIt (eVar 1) (eC (.int 1)))) aNil))) (aCons (eSl false (eVar 1) oNone (oSome (eC (.int 1)))) (aCons (eC .none) (aCons (eTup (aCons (eC (.int 0)) (aCons (eTup aNil) aNil))) (aCons (eTup (aCons (eC (.int 1)) (aCons (eTup aNil) aNil))) aNil))))))))))) e s) fun d s1 => ∃ vs, d = .d (.list vs) ∧ vs.length ≤ 20 ∧ (∀ x ∈ vs, VP x) ∧ s1 = s := by
  simp only [R_lst, R_cons, R_nil, R_it, R_Var, R_C, R_sl, R_oSome, R_oNone, R_neg, R_rev, R_bin, R_tup, N.v_add, N.v_sub, ep, fst_par, snd_par, Rc_some, R_some, N.data_cons, N.data_nil, R_call, List.length_cons, List.length_nil, R_mkF]
  refine ⟨by simp [lim], by simp [lim], by simp [lim], by simp [lim], by simp [lim], by simp [lim], by simp [lim], by simp [lim], by simp [lim], by simp [lim], _, rfl, by simp, fun x hx => ?_, by trivial⟩
  simp only [List.mem_cons, List.not_mem_nil, or_false] at hx
  have one : ∀ (a : PyData) (xs : List PyData), xs.length ≤ 1000 → VP (.tuple [a, .tuple xs]) := fun a xs h a' xs' e => by
    simp only [PyData.tuple.injEq, List.cons.injEq, and_true] at e
    rw [← e.2]
    exact h
  have hm : (es.map prP).length ≤ 1000 := by rw [List.length_map]; exact hl
  rcases hx with rfl | rfl | rfl | rfl | rfl | rfl | rfl | rfl | rfl | rfl | rfl
  · exact one _ _ hm
  · intro a xs e
    simp at e
  · exact one _ _ hm
  · exact one _ _ hm
  · exact one _ _ hm
  · exact one _ _ hm
  · exact one _ _ (by rw [List.length_reverse]; exact hm)
  · intro a xs e
    have h1 : N.cutD [PyData.int (n : Nat), .tuple (es.map prP)] none (some 1) = [.int (n : Nat)] := by rfl
    rw [h1] at e
    simp at e
  · intro a xs e; cases e
  · exact one _ _ (by simp)
  · exact one _ _ (by simp)
theorem loop2_ok (t : BS rest s) (f : Flat rest) (h0 : 0 < n) (hn : n ≤ 7) (G : Pkr n es) {vs : List PyData} (hvl : vs.length ≤ 20) (hvs : ∀ x ∈ vs, VP x) {d4 d5 d6 d7 d8 d9 : D} {Qs : Fl → Lo → Sto → Prop} (q : ∀ e' s', BS rest s' → Qs .nx e' s') :
    Rs (sFor (iSeq (eBin (oAdd false) (eVar 11) (eLc false [14] (iRng1 (aCons (eC (.int 6)) aNil)) (gName 14) tTrue (eCall (m__law_bent 6) (aCons (eVar 0) (aCons (eVar 1) aNil)))))) (gName 13) (sSeq (sIf (tNot (tVal (eCall (m__law_same 6) (aCons (eCall m_is_park (aCons (eVar 13) aNil)) (aCons (eCall m__law_is_park (aCons (eVar 13) aNil)) aNil))))) (sSeq (sRet (eC (.bool false)))
  sNil) sNil)
  sNil) [13] (eF n es d4 d5 d6 d7 d8 d9 (.d (.list vs))) s) Qs := by
  have l2 := G.len
  have n49 : n * n ≤ 49 := Nat.mul_le_mul hn hn
  have hx : bnt 100 4 (parD n es) := by
    refine ⟨by simp, fun y hy => ?_⟩
    simp only [List.mem_cons, List.not_mem_nil, or_false] at hy
    rcases hy with rfl | rfl
    · show ((n : Nat) : Int).natAbs < 2 ^ 256
      exact Nat.lt_of_le_of_lt (show _ ≤ 100 by omega) (by decide)
    · refine ⟨by rw [List.length_map]; omega, fun z hz => ?_⟩
      obtain ⟨p, hp, rfl⟩ := List.mem_map.mp hz
      have h1 := G.lt p hp
      have h2 := G.le p hp
      refine ⟨by simp, fun y hy => ?_⟩
      simp only [List.mem_cons, List.not_mem_nil, or_false] at hy
      rcases hy with rfl | rfl
      · show ((p.1 : Nat) : Int).natAbs < 2 ^ 256
        exact Nat.lt_of_le_of_lt (show _ ≤ 100 by omega) (by decide)
      · show ((p.2 : Nat) : Int).natAbs < 2 ^ 256
        exact Nat.lt_of_le_of_lt (show _ ≤ 100 by omega) (by decide)
  refine Rs_forJ (fun (x : PyData) => .d x) (fun l e s1 => (∀ x ∈ l, VP x) ∧ BS rest s1 ∧ e = eF n es d4 d5 d6 d7 d8 d9 (.d (.list vs))) ?_ (fun l e s1 hq => ?_)
  · rw [Ri_seq, R_bin, R_Var]
    simp only [List.getElem?_cons_succ, List.getElem?_cons_zero]
    refine R_bents (m := 6) t f (by omega) hx (by omega) (fun d => rfl) (fun d => rfl) fun acc s' hal haw t1 => ?_
    rw [v_addLL]
    refine ⟨by simp only [lim]; omega, vs ++ acc, by trivial, by trivial, fun x hx => ?_, t1, by trivial⟩
    rcases List.mem_append.mp hx with hx | hx
    · exact hvs x hx
    · exact VP.wd (haw x hx) (by decide)
  · obtain ⟨hl, t1, rfl⟩ := hq
    refine Rs_for l (fun x => .d x) (fun k e s' => BS rest s' ∧ e = eF n es d4 d5 d6 d7 d8 d9 (.d (.list vs))) ⟨_, _, _, rfl, rfl, rfl, t1, rfl⟩ (fun k x e s' hk hq => ?_) (fun e s' hq => ?_)
    · obtain ⟨t2, rfl⟩ := hq
      have hv := hl x (List.mem_of_getElem? hk)
      rw [g_name, Rc_some, Rs_seq, Rs_if]
      refine R_tsameF ?_
      simp only [R_call, R_cons, R_nil, R_Var, List.set_cons_succ, List.set_cons_zero, List.getElem?_cons_succ, List.getElem?_cons_zero, ispark_ok hv, lawpark_ok hv, R_some]
      refine ⟨_, rfl, rfl, by unfold sok; trivial, fun h => (by cases h), fun _ => ?_⟩
      rw [Rs_nil, N.thn_nx, Rs_nil, aft_nx, trimE_len rfl]
      exact ⟨t2, by simp [wipeN]⟩
    · obtain ⟨t2, rfl⟩ := hq
      exact q _ s' t2
theorem R_fine (t : BS rest s) (f : Flat rest) (G : Pkr n es) (h0 : 0 < n) (hn : n ≤ 7) {Q : D → Sto → Prop} (q : ∀ s', BS rest s' → Q (.d (.bool true)) s') : R (m__law_fine s [.r 1, .d (parD n es)]) Q := by
  have l2 := G.len
  have n49 : n * n ≤ 49 := Nat.mul_le_mul hn hn
  have hes : es.length ≤ 10000 := by omega
  have n100 : n ≤ 100 := by omega
  unfold m__law_fine b__law_fine
  rw [R_fn]
  refine ⟨rfl, ?_⟩
  simp only [List.map_cons, List.map_nil, List.cons_append, List.nil_append, List.length_cons, List.length_nil, Nat.reduceSub, Nat.reduceAdd, List.replicate_succ, List.replicate_zero]
  obtain ⟨P, M, td, hP, lM, hcM⟩ := told_ok (es := es) h0
  rw [Rs_seq, Rs_set]
  simp only [R_call, R_cons, R_nil, R_Var, List.getElem?_cons_succ, List.getElem?_cons_zero, lawnear_ok G n100, R_some, List.set_cons_succ, List.set_cons_zero]
  rw [N.thn_nx, Rs_seq, Rs_par]
  simp only [R_call, R_cons, R_nil, R_Var, List.getElem?_cons_succ, List.getElem?_cons_zero, wins_ok G h0 (show n ≤ 12 by omega), take_ok' G h0 n100 hes, R_some, td]
  refine ⟨rfl, ?_⟩
  simp only [List.zip_cons_cons, List.zip_nil_right, List.foldl_cons, List.foldl_nil, List.set_cons_succ, List.set_cons_zero]
  rw [N.thn_nx, Rs_seq, Rs_asg]
  simp only [R_call, R_cons, R_nil, R_Var, List.getElem?_cons_succ, List.getElem?_cons_zero]
  refine R_apart t f G h0 (by omega) fun F L s1 lL hL hLn hFn hcL hF t1 => ?_
  have hw : decide (L.length = 1) = winB n es := win_left lL hcL
  rw [hw]
  simp only [N.g_tup, N.gs_cons, N.gs_nil, N.gs_len, List.length_cons, List.length_nil, if_true, Nat.reduceAdd, g_name, List.set_cons_succ, List.set_cons_zero, Rc_some]
  have i0 : ∀ s' : Sto, itF s' (.d (.tuple [wordP (winB n es), .tuple (P.map prP)])) (.d (.int 0)) = some (.d (wordP (winB n es))) := fun s' => it_1 rfl
  have i1 : ∀ s' : Sto, itF s' (.d (.tuple [wordP (winB n es), .tuple (P.map prP)])) (.d (.int 1)) = some (.d (.tuple (P.map prP))) := fun s' => it_2 rfl
  rw [N.thn_nx, Rs_seq, Rs_if, R_tOr]
  simp only [R_tNot, R_tVal, R_isi, R_Var, List.getElem?_cons_succ, List.getElem?_cons_zero, N.pd_d, Rc_some, N.tru_b, show TyT.tup.of (.tuple [wordP (winB n es), .tuple (P.map prP)]) = true from rfl, Bool.not_true, true_implies, Bool.false_eq_true, false_implies, and_true]
  rw [R_tOr, R_tcmp]
  simp only [R_call, R_cons, R_nil, R_Var, R_C, List.getElem?_cons_succ, List.getElem?_cons_zero, N.len_t, R_some, List.length_cons, List.length_nil, N.v_ne, show decide ((((0 + 1 + 1 : Nat)) : Int) = 2) = true from rfl, Bool.not_true, Rc_some, true_implies, Bool.false_eq_true, false_implies, and_true]
  rw [R_tOr]
  refine R_tsameF ?_
  simp only [R_it, R_ite, R_tVal, R_Var, R_C, List.getElem?_cons_succ, List.getElem?_cons_zero, i0, Rc_some, N.tru_b]
  have comb : ∀ {C : Prop}, C → (winB n es = true → ∃ z, D.d (wordP (winB n es)) = D.d z ∧ D.d (.str "apart") = D.d z ∧ sok 6 z ∧ C) ∧ (winB n es = false → ∃ z, D.d (wordP (winB n es)) = D.d z ∧ D.d (.str "stuck") = D.d z ∧ sok 6 z ∧ C) := fun {C} c => by
    refine ⟨fun h => ⟨_, rfl, ?_, sok_word _, c⟩, fun h => ⟨_, rfl, ?_, sok_word _, c⟩⟩
    · rw [h]; rfl
    · rw [h]; rfl
  refine comb ?_
  simp only [true_implies, Bool.false_eq_true, false_implies, and_true, R_tcmp, R_Var, List.getElem?_cons_succ, List.getElem?_cons_zero, N.v_neB, Rc_some, decide_true, Bool.not_true]
  refine ⟨trivial, ?_⟩
  rw [Rs_nil, N.thn_nx, Rs_seq, Rs_set]
  simp only [R_call, R_cons, R_nil, R_it, R_Var, R_C, List.getElem?_cons_succ, List.getElem?_cons_zero, i1, Rc_some, List.set_cons_succ, List.set_cons_zero]
  have hPn : P.length ≤ n := by
    have := leftX_cnt hP
    rw [List.length_map, List.length_range] at this
    omega
  have hPl : P.length ≤ lim := by simp only [lim]; omega
  have lbM : lbV n es (.tuple (P.map prP)) = .list (nt M) := by
    unfold lbV lbD
    simp only [hP]
  rw [lawleft_ok G h0 n100 (fun xs h => by injection h with h; rw [← h, List.length_map]; exact hPl), lbM, R_some]
  have llM : LL s1 (.d (.list (nt M))) (nt M) := .inr (.inl rfl)
  have hMl : M.length ≤ n := by
    have := leftX_len hP
    rwa [List.length_range] at this
  have pkm : ∀ s', cNe s' (.d (.list ((csP n es M).map prP))) (.d (.list [])) = some (!decide ((csP n es M).map prP = [])) := fun s' => ne_nilP _ (pk_prs _) (Nat.le_trans (dep_prs _) (by omega)) s'
  rw [N.thn_nx, Rs_seq, Rs_if]
  refine R.imp (Q := fun b s2 => b = false ∧ s2 = s1) ?_ ?_
  · rw [R_tOr]
    simp only [R_tcmp, R_Var, R_C, List.getElem?_cons_succ, List.getElem?_cons_zero, N.v_isN, N.isNone_l, Rc_some, true_implies, Bool.false_eq_true, false_implies, and_true, R_tOr, R_cmp, R_call, R_cons, R_nil, len_l, R_some, N.v_eq]
    rw [show decide (((nt M).length : Int) = 1) = winB n es from by
      rw [← win_left lM hcM]
      exact decide_eq_decide.mpr (by simp [nt]; omega)]
    simp only [N.v_neB, decide_true, Bool.not_true, Rc_some, true_implies, Bool.true_eq_false, Bool.false_eq_true, false_implies, and_true, R_tAnd, R_tNot, R_tVal, R_Var, List.getElem?_cons_succ, List.getElem?_cons_zero, N.tru_b, R_tcmp, R_call, R_cons, R_nil, lawcorners_ok llM lM.lt hMl n100, R_some, R_lst, R_mkF, N.data_nil, List.length_nil, pkm]
    refine ⟨fun h => ?_, fun _ => by trivial⟩
    have h : winB n es = false := by simpa using h
    refine ⟨by simp [lim], ?_⟩
    rw [hcM]
    · simp
    · rw [← win_left lM hcM] at h
      have := of_decide_eq_false h
      have := List.length_pos_iff.mpr lM.ne
      omega
  intro b s2 hbs
  rw [hbs.1, hbs.2]
  refine ⟨fun h => (by cases h), fun _ => ?_⟩
  rw [Rs_nil, N.thn_nx, Rs_seq, Rs_set]
  have fI : ∀ {acc : List PyData}, Flat (rest ++ [.lst (acc.map D.d)]) := fun {acc} => flat_snoc f (lst_bel _)
  refine R_lcI (List.range n) (fun k => .d (.int (k : Nat))) s1.length (fun k acc s' => BS rest s' ∧ ∃ S : List Nat, acc = nt S ∧ S.length ≤ k ∧ ∀ x ∈ S, x < n) ((rngI1 (n := n) (by omega) (m_of ?_)).keep ⟨t1, [], rfl, by simp, by simp⟩) (fun k acc s' hq => ?_) (fun k y acc s' hy hq => ?_) (by simp [lim]; omega) (fun acc s' hq => ?_)
  · simp only [Rs_nil, R_call, R_cons, R_nil, R_Var, R_C, R_bin, R_cmp, R_tcmp, R_tOr, R_tAnd, R_tNot, R_tVal, R_tTrue, R_ite, R_eAnd, R_eOr, R_eNot, R_neg, R_tup, R_isi, R_some, Rc_some, N.v_eq, N.v_ne, N.v_lt, N.v_le, N.v_gt, N.v_ge, N.v_add, N.v_sub, N.v_iadd, N.v_xor, N.v_int, N.tru_b, N.pd_d, N.data_nil, N.data_cons, N.len_t, N.v_tupT, N.g_name, N.isNone_n, N.isNone_t, N.isNone_i, N.v_isN, N.v_isNn, N.v_eqB, N.v_neB, List.set_cons_succ, List.set_cons_zero, List.getElem?_cons_succ, List.getElem?_cons_zero, Bool.not_true, Bool.not_false, Bool.false_eq_true, Bool.true_eq_false, eq_self, true_implies, false_implies, true_and, and_true, decide_true, decide_false, Int.zero_add, N.R_sl, N.R_it, R_oNone, R_oSome, wipeN, N.R_lst, N.R_mkF, N.R_mkT, N.R_meth, N.v_addT, Ri_rng1, Ri_rng2, Ri_seq, fst_par]
  · exact ⟨by rw [hq.1.len, t1.len], hq.1.wf f⟩
  · obtain ⟨t2, S, rfl, hS, hSn⟩ := hq
    obtain ⟨hk1, hk2⟩ := List.getElem?_eq_some_iff.mp hy
    rw [List.getElem_range] at hk2
    subst hk2
    rw [List.length_range] at hk1
    rw [g_name, Rc_some, R_tcmp]
    simp only [R_call, R_cons, R_nil, R_Var, R_C, wipeN, List.set_cons_succ, List.set_cons_zero, List.getElem?_cons_succ, List.getElem?_cons_zero]
    refine R_draw (t2.app [Cell.lst ((nt S).map D.d)]) (m := 3) (by decide) (by decide) fun d s3 hd t3 => ?_
    obtain ⟨s4, rfl, t4⟩ := t3.unapp
    rw [N.v_gt, Rc_some]
    refine ⟨fun _ => ⟨s4, rfl, t4, S, rfl, by omega, hSn⟩, fun _ => ⟨_, s4, rfl, rfl, t4, S ++ [k], by simp [nt], by simp; omega, fun x hx => ?_⟩⟩
    rcases List.mem_append.mp hx with hx | hx
    · exact hSn x hx
    · rw [List.mem_singleton.mp hx]; exact hk1
  obtain ⟨t2, S, rfl, hS, hSn⟩ := hq
  rw [List.length_range] at hS
  simp only [List.set_cons_succ, List.set_cons_zero]
  have llT : ∀ s', LL s' (.d (.tuple (nt S))) (nt S) := fun s' => .inl rfl
  have llS : ∀ s', LL s' (.d (.list (nt S))) (nt S) := fun s' => .inr (.inl rfl)
  rw [N.thn_nx, Rs_seq, Rs_if]
  refine R.imp (Q := fun b s2 => b = false ∧ s2 = s') ?_ ?_
  · rw [R_tOr]
    refine R_tsameF ?_
    simp only [R_call, R_cons, R_nil, R_Var, List.getElem?_cons_succ, List.getElem?_cons_zero, v_tupL, R_some, corners_ok G (llT _) hSn hS n100 hes, lawcorners_ok (llS _) hSn hS n100]
    refine ⟨_, rfl, rfl, sok_prs _ (Nat.le_trans (cs_len n es S) (Nat.mul_le_mul (by omega : S.length ≤ 100) (by omega : S.length ≤ 100))), fun _ => ?_, fun h => (by cases h)⟩
    refine R_tsameF ?_
    simp only [R_call, R_cons, R_nil, R_Var, List.getElem?_cons_succ, List.getElem?_cons_zero, near_ok G n100 hes, R_some]
    refine R_lcmG (rwP n es) (fun r => .d (.list (nt r))) (fun r => tup r) ?_ (fun r hr acc => ?_) (by rw [rw_len]; simp only [lim]; omega) ?_
    · exact ⟨_, _, _, rfl, by rw [List.map_map]; rfl, CkA.none _, rfl⟩
    · simp only [Rs_nil, R_call, R_cons, R_nil, R_Var, R_C, R_bin, R_cmp, R_tcmp, R_tOr, R_tAnd, R_tNot, R_tVal, R_tTrue, R_ite, R_eAnd, R_eOr, R_eNot, R_neg, R_tup, R_isi, R_some, Rc_some, N.v_eq, N.v_ne, N.v_lt, N.v_le, N.v_gt, N.v_ge, N.v_add, N.v_sub, N.v_iadd, N.v_xor, N.v_int, N.tru_b, N.pd_d, N.data_nil, N.data_cons, N.len_t, N.v_tupT, N.g_name, N.isNone_n, N.isNone_t, N.isNone_i, N.v_isN, N.v_isNn, N.v_eqB, N.v_neB, List.set_cons_succ, List.set_cons_zero, List.getElem?_cons_succ, List.getElem?_cons_zero, Bool.not_true, Bool.not_false, Bool.false_eq_true, Bool.true_eq_false, eq_self, true_implies, false_implies, true_and, and_true, decide_true, decide_false, Int.zero_add, N.R_sl, N.R_it, R_oNone, R_oSome, wipeN, N.R_lst, N.R_mkF, N.R_mkT, N.R_meth, N.v_addT, Ri_rng1, Ri_rng2, Ri_seq, v_tupL]
      rfl
    · simp only [v_tupL, R_some]
      exact ⟨_, rfl, rfl, sok_rows n100, by trivial, by trivial⟩
  intro b s2 hbs
  rw [hbs.1, hbs.2]
  refine ⟨fun h => (by cases h), fun _ => ?_⟩
  rw [Rs_nil, N.thn_nx, Rs_seq, Rs_set]
  simp only [R_call, R_cons, R_nil, R_it, R_Var, R_C, List.getElem?_cons_succ, List.getElem?_cons_zero, fst_par, Rc_some]
  refine R_draw t2 (m := n) h0 (Nat.lt_of_le_of_lt n100 (by decide)) fun p s3 hp t3 => ?_
  simp only [List.set_cons_succ, List.set_cons_zero]
  rw [N.thn_nx, Rs_seq, Rs_if]
  refine R_tsameF ?_
  simp only [R_call, R_cons, R_nil, R_Var, List.getElem?_cons_succ, List.getElem?_cons_zero, steps_ok G n100 hes hp, far_ok hn hp, R_some]
  refine ⟨_, rfl, rfl, sok_stD n100 p, fun h => (by cases h), fun _ => ?_⟩
  rw [Rs_nil, N.thn_nx, Rs_seq, Rs_set]
  obtain ⟨_, _, hv1, vs, rfl, hvl, hvs, rfl⟩ := vals1_ok (n := n) (es := es) (P := P) (F := F) (w := wordP (winB n es)) (by omega) (by omega) (e := [some (.r 1), some (.d (parD n es)), some (.d (rwL n es)), some (.d (.bool (winB n es))), some (.d (.tuple [wordP (winB n es), .tuple (P.map prP)])), some (.d (.tuple (F.map prP))), some (.d (.bool (winB n es))), some (.d (.list (nt M))), some (.d (.list (nt S))), some (.d (.int (p : Nat))), none, none, none, none, none, none, none]) (s := s3) (fun _ _ => trivial) rfl rfl rfl rfl
  rw [hv1, R_some]
  simp only [List.set_cons_succ, List.set_cons_zero]
  rw [N.thn_nx, Rs_seq]
  refine loop1_ok t3 f G h0 hn (by omega) hF hvl hvs fun s4 t4 => ?_
  rw [N.thn_nx, Rs_seq, Rs_set]
  obtain ⟨_, _, hv2, vs2, rfl, hvl2, hvs2, rfl⟩ := vals2_ok (n := n) (es := es) (by omega) (e := eF n es (.d (.tuple [wordP (winB n es), .tuple (P.map prP)])) (.d (.tuple (F.map prP))) (.d (.bool (winB n es))) (.d (.list (nt M))) (.d (.list (nt S))) (.d (.int (p : Nat))) (.d (.list vs))) (s := s4) rfl
  rw [hv2, R_some]
  simp only [List.set_cons_succ, List.set_cons_zero]
  rw [N.thn_nx, Rs_seq]
  refine loop2_ok t4 f h0 hn G hvl2 hvs2 fun e5 s5 t5 => ?_
  simp only [N.thn_nx, N.thn_rt, Rs_seq, Rs_set, Rs_ret, Rs_expr, Rs_nil, Rs_if, Rs_asg, Rs_aug, R_call, R_cons, R_nil, R_Var, R_C, R_bin, R_cmp, R_tcmp, R_tOr, R_tAnd, R_tNot, R_tVal, R_tTrue, R_ite, R_eAnd, R_eOr, R_eNot, R_neg, R_tup, R_isi, R_some, Rc_some, N.v_eq, N.v_ne, N.v_lt, N.v_le, N.v_gt, N.v_ge, N.v_add, N.v_sub, N.v_iadd, N.v_xor, N.v_int, N.tru_b, N.pd_d, N.data_nil, N.data_cons, N.len_t, N.v_tupT, N.g_name, N.isNone_n, N.isNone_t, N.isNone_i, N.v_isN, N.v_isNn, N.v_eqB, N.v_neB, List.set_cons_succ, List.set_cons_zero, List.getElem?_cons_succ, List.getElem?_cons_zero, Bool.not_true, Bool.not_false, Bool.false_eq_true, Bool.true_eq_false, eq_self, true_implies, false_implies, true_and, and_true, decide_true, decide_false, Int.zero_add, N.R_sl, N.R_it, R_oNone, R_oSome, wipeN, N.R_lst, N.R_mkF, N.R_mkT, N.R_meth, N.v_addT, Ri_rng1, Ri_rng2, Ri_seq, R_retd]
  rw [trim_wf' (by rw [t5.len, t.len]) (t5.wf f)]
  exact q s5 t5
end
end T72

namespace T72
open PySem L2 PyProof.Rows N
theorem pk_ring : Pkr 4 [(0, 1), (0, 3), (1, 2), (2, 3)] := ⟨by decide, by decide, by decide⟩
theorem pk_one : Pkr 1 [] := ⟨by decide, by decide, by decide⟩
theorem pk_path : Pkr 3 [(0, 1), (1, 2)] := ⟨by decide, by decide, by decide⟩
theorem ta_path : taP 3 [(0, 1), (1, 2)] 3 (List.range 3) [] = (true, [(0, 1), (1, 2)]) := by decide
theorem run {ns : List Int} (hl : ns.length ≤ 63) : ∃ s', m_law [] [.d (.list (ns.map .int))] = some (.d (.bool true), s') := by
  have : R (m_law [] [.d (.list (ns.map .int))]) fun d _ => d = .d (.bool true) := by
    unfold m_law b_law
    rw [R_fn]
    refine ⟨rfl, ?_⟩
    simp only [List.map_cons, List.map_nil, List.cons_append, List.nil_append, List.length_cons, List.length_nil, Nat.reduceSub, Nat.reduceAdd, List.replicate_succ, List.replicate_zero]
    rw [Rs_seq, Rs_set]
    simp only [R_call, R_cons, R_nil, R_Var, List.getElem?_cons_succ, List.getElem?_cons_zero]
    refine R_box fun s0 t0 => ?_
    simp only [List.set_cons_succ, List.set_cons_zero]
    have fn : Flat ([] : Sto) := fun c hc => by cases hc
    rw [N.thn_nx, Rs_seq, Rs_if]
    simp only [Rs_nil, R_call, R_cons, R_nil, R_Var, R_C, R_bin, R_cmp, R_tcmp, R_tOr, R_tAnd, R_tNot, R_tVal, R_tTrue, R_ite, R_eAnd, R_eOr, R_eNot, R_neg, R_tup, R_isi, R_some, Rc_some, N.v_eq, N.v_ne, N.v_lt, N.v_le, N.v_gt, N.v_ge, N.v_add, N.v_sub, N.v_iadd, N.v_xor, N.v_int, N.tru_b, N.pd_d, N.data_nil, N.data_cons, N.len_t, N.v_tupT, N.g_name, N.isNone_n, N.isNone_t, N.isNone_i, N.v_isN, N.v_isNn, N.v_eqB, N.v_neB, List.set_cons_succ, List.set_cons_zero, List.getElem?_cons_succ, List.getElem?_cons_zero, Bool.not_true, Bool.not_false, Bool.false_eq_true, Bool.true_eq_false, eq_self, true_implies, false_implies, true_and, and_true, decide_true, decide_false, Int.zero_add, N.R_sl, N.R_it, R_oNone, R_oSome, wipeN, N.R_lst, N.R_mkF, N.R_mkT, N.R_meth, N.v_addT, Ri_rng1, Ri_rng2, Ri_seq]
    rw [N.thn_nx, Rs_seq]
    refine Rs_for (List.range 4) (fun k => .d (.int (k : Nat))) (fun k e s' => BS [] s' ∧ e = [some (.d (.list (ns.map .int))), some (.r 1), none]) ((rngI1 (n := 4) (by decide) rfl).keep ⟨t0, rfl⟩) (fun k x e s' hk hq => ?_) (fun e s' hq => ?_)
    · obtain ⟨t1, rfl⟩ := hq
      obtain ⟨hk1, hk2⟩ := List.getElem?_eq_some_iff.mp hk
      rw [List.getElem_range] at hk2
      subst hk2
      rw [List.length_range] at hk1
      have it : ∃ m : Nat, 0 < m ∧ m ≤ 7 ∧ itF s' (.d (.list [.int 3, .int 5, .int 7, .int 7])) (.d (.int (k : Nat))) = some (.d (.int (m : Nat))) := by
        have : k = 0 ∨ k = 1 ∨ k = 2 ∨ k = 3 := by omega
        rcases this with rfl | rfl | rfl | rfl
        · exact ⟨3, by decide, by decide, itF_tl rfl⟩
        · exact ⟨5, by decide, by decide, itF_tl rfl⟩
        · exact ⟨7, by decide, by decide, itF_tl rfl⟩
        · exact ⟨7, by decide, by decide, itF_tl rfl⟩
      obtain ⟨m, m0, m7, hit⟩ := it
      rw [g_name, Rc_some, Rs_seq, Rs_if]
      simp only [Rs_nil, R_call, R_cons, R_nil, R_Var, R_C, R_bin, R_cmp, R_tcmp, R_tOr, R_tAnd, R_tNot, R_tVal, R_tTrue, R_ite, R_eAnd, R_eOr, R_eNot, R_neg, R_tup, R_isi, R_some, Rc_some, N.v_eq, N.v_ne, N.v_lt, N.v_le, N.v_gt, N.v_ge, N.v_add, N.v_sub, N.v_iadd, N.v_xor, N.v_int, N.tru_b, N.pd_d, N.data_nil, N.data_cons, N.len_t, N.v_tupT, N.g_name, N.isNone_n, N.isNone_t, N.isNone_i, N.v_isN, N.v_isNn, N.v_eqB, N.v_neB, List.set_cons_succ, List.set_cons_zero, List.getElem?_cons_succ, List.getElem?_cons_zero, Bool.not_true, Bool.not_false, Bool.false_eq_true, Bool.true_eq_false, eq_self, true_implies, false_implies, true_and, and_true, decide_true, decide_false, Int.zero_add, N.R_sl, N.R_it, R_oNone, R_oSome, wipeN, N.R_lst, N.R_mkF, N.R_mkT, N.R_meth, N.v_addT, Ri_rng1, Ri_rng2, Ri_seq]
      refine ⟨by simp [lim], ?_⟩
      rw [hit, Rc_some]
      refine R_park t1 fn m0 (by omega) fun n es s2 n0 nm G t2 => ?_
      refine R_fine t2 fn G n0 (by omega) fun s3 t3 => ?_
      simp only [N.thn_nx, N.thn_rt, Rs_seq, Rs_set, Rs_ret, Rs_expr, Rs_nil, Rs_if, Rs_asg, Rs_aug, R_call, R_cons, R_nil, R_Var, R_C, R_bin, R_cmp, R_tcmp, R_tOr, R_tAnd, R_tNot, R_tVal, R_tTrue, R_ite, R_eAnd, R_eOr, R_eNot, R_neg, R_tup, R_isi, R_some, Rc_some, N.v_eq, N.v_ne, N.v_lt, N.v_le, N.v_gt, N.v_ge, N.v_add, N.v_sub, N.v_iadd, N.v_xor, N.v_int, N.tru_b, N.pd_d, N.data_nil, N.data_cons, N.len_t, N.v_tupT, N.g_name, N.isNone_n, N.isNone_t, N.isNone_i, N.v_isN, N.v_isNn, N.v_eqB, N.v_neB, List.set_cons_succ, List.set_cons_zero, List.getElem?_cons_succ, List.getElem?_cons_zero, Bool.not_true, Bool.not_false, Bool.false_eq_true, Bool.true_eq_false, eq_self, true_implies, false_implies, true_and, and_true, decide_true, decide_false, Int.zero_add, N.R_sl, N.R_it, R_oNone, R_oSome, wipeN, N.R_lst, N.R_mkF, N.R_mkT, N.R_meth, N.v_addT, Ri_rng1, Ri_rng2, Ri_seq]
      rw [aft_nx, trimE_len (by rw [t3.len, t1.len])]
      exact ⟨t3, by simp [wipeN]⟩
    · obtain ⟨t1, rfl⟩ := hq
      rw [N.thn_nx, Rs_seq, Rs_ret, R_eAnd, R_call]
      have c1 : ∀ s : Sto, R (aCons (eVar 1) (aCons (eTup (aCons (eC (.int 4)) (aCons (eTup (aCons (eTup (aCons (eC (.int 0)) (aCons (eC (.int 1)) aNil))) (aCons (eTup (aCons (eC (.int 0)) (aCons (eC (.int 3)) aNil))) (aCons (eTup (aCons (eC (.int 1)) (aCons (eC (.int 2)) aNil))) (aCons (eTup (aCons (eC (.int 2)) (aCons (eC (.int 3)) aNil))) aNil))))) aNil))) aNil) [some (.d (.list (ns.map .int))), some (.r 1), none] s) fun ds s1 => ds = [.r 1, .d (parD 4 [(0, 1), (0, 3), (1, 2), (2, 3)])] ∧ s1 = s := fun s => by
        simp only [Rs_nil, R_call, R_cons, R_nil, R_Var, R_C, R_bin, R_cmp, R_tcmp, R_tOr, R_tAnd, R_tNot, R_tVal, R_tTrue, R_ite, R_eAnd, R_eOr, R_eNot, R_neg, R_tup, R_isi, R_some, Rc_some, N.v_eq, N.v_ne, N.v_lt, N.v_le, N.v_gt, N.v_ge, N.v_add, N.v_sub, N.v_iadd, N.v_xor, N.v_int, N.tru_b, N.pd_d, N.data_nil, N.data_cons, N.len_t, N.v_tupT, N.g_name, N.isNone_n, N.isNone_t, N.isNone_i, N.v_isN, N.v_isNn, N.v_eqB, N.v_neB, List.set_cons_succ, List.set_cons_zero, List.getElem?_cons_succ, List.getElem?_cons_zero, Bool.not_true, Bool.not_false, Bool.false_eq_true, Bool.true_eq_false, eq_self, true_implies, false_implies, true_and, and_true, decide_true, decide_false, Int.zero_add, N.R_sl, N.R_it, R_oNone, R_oSome, wipeN, N.R_lst, N.R_mkF, N.R_mkT, N.R_meth, N.v_addT, Ri_rng1, Ri_rng2, Ri_seq]
        simp [lim]
      have h1 := R.eq (c1 s')
      rw [h1, R_some]
      refine R_fine t1 fn pk_ring (by decide) (by decide) fun s2 t2 => ?_
      rw [tru_b, Rc_some]
      refine ⟨fun _ => ?_, fun h => (by cases h)⟩
      rw [R_eAnd, R_call]
      have c2 : ∀ s : Sto, R (aCons (eVar 1) (aCons (eTup (aCons (eC (.int 1)) (aCons (eTup aNil) aNil))) aNil) [some (.d (.list (ns.map .int))), some (.r 1), none] s) fun ds s1 => ds = [.r 1, .d (parD 1 [])] ∧ s1 = s := fun s => by
        simp only [Rs_nil, R_call, R_cons, R_nil, R_Var, R_C, R_bin, R_cmp, R_tcmp, R_tOr, R_tAnd, R_tNot, R_tVal, R_tTrue, R_ite, R_eAnd, R_eOr, R_eNot, R_neg, R_tup, R_isi, R_some, Rc_some, N.v_eq, N.v_ne, N.v_lt, N.v_le, N.v_gt, N.v_ge, N.v_add, N.v_sub, N.v_iadd, N.v_xor, N.v_int, N.tru_b, N.pd_d, N.data_nil, N.data_cons, N.len_t, N.v_tupT, N.g_name, N.isNone_n, N.isNone_t, N.isNone_i, N.v_isN, N.v_isNn, N.v_eqB, N.v_neB, List.set_cons_succ, List.set_cons_zero, List.getElem?_cons_succ, List.getElem?_cons_zero, Bool.not_true, Bool.not_false, Bool.false_eq_true, Bool.true_eq_false, eq_self, true_implies, false_implies, true_and, and_true, decide_true, decide_false, Int.zero_add, N.R_sl, N.R_it, R_oNone, R_oSome, wipeN, N.R_lst, N.R_mkF, N.R_mkT, N.R_meth, N.v_addT, Ri_rng1, Ri_rng2, Ri_seq]
        simp [lim]
      have h2 := R.eq (c2 s2)
      rw [h2, R_some]
      refine R_fine t2 fn pk_one (by decide) (by decide) fun s3 t3 => ?_
      rw [tru_b, Rc_some]
      refine ⟨fun _ => ?_, fun h => (by cases h)⟩
      rw [R_call, R_cons, R_call]
      have c3 : ∀ s : Sto, R (aCons (eTup (aCons (eC (.int 3)) (aCons (eTup (aCons (eTup (aCons (eC (.int 0)) (aCons (eC (.int 1)) aNil))) (aCons (eTup (aCons (eC (.int 1)) (aCons (eC (.int 2)) aNil))) aNil))) aNil))) aNil [some (.d (.list (ns.map .int))), some (.r 1), none] s) fun ds s1 => ds = [.d (parD 3 [(0, 1), (1, 2)])] ∧ s1 = s := fun s => by
        simp only [Rs_nil, R_call, R_cons, R_nil, R_Var, R_C, R_bin, R_cmp, R_tcmp, R_tOr, R_tAnd, R_tNot, R_tVal, R_tTrue, R_ite, R_eAnd, R_eOr, R_eNot, R_neg, R_tup, R_isi, R_some, Rc_some, N.v_eq, N.v_ne, N.v_lt, N.v_le, N.v_gt, N.v_ge, N.v_add, N.v_sub, N.v_iadd, N.v_xor, N.v_int, N.tru_b, N.pd_d, N.data_nil, N.data_cons, N.len_t, N.v_tupT, N.g_name, N.isNone_n, N.isNone_t, N.isNone_i, N.v_isN, N.v_isNn, N.v_eqB, N.v_neB, List.set_cons_succ, List.set_cons_zero, List.getElem?_cons_succ, List.getElem?_cons_zero, Bool.not_true, Bool.not_false, Bool.false_eq_true, Bool.true_eq_false, eq_self, true_implies, false_implies, true_and, and_true, decide_true, decide_false, Int.zero_add, N.R_sl, N.R_it, R_oNone, R_oSome, wipeN, N.R_lst, N.R_mkF, N.R_mkT, N.R_meth, N.v_addT, Ri_rng1, Ri_rng2, Ri_seq]
        simp [lim]
      have h3 := R.eq (c3 s3)
      rw [h3, R_some, take_ok' pk_path (by decide) (by decide) (by decide), R_some]
      have td : taD 3 [(0, 1), (1, 2)] = .tuple [.str "apart", .tuple [.tuple [.int 0, .int 1], .tuple [.int 1, .int 2]]] := by
        unfold taD
        rw [ta_path]
        rfl
      rw [td]
      have c4 : ∀ s : Sto, R (aCons (eTup (aCons (eC (.str "apart")) (aCons (eTup (aCons (eTup (aCons (eC (.int 0)) (aCons (eC (.int 1)) aNil))) (aCons (eTup (aCons (eC (.int 1)) (aCons (eC (.int 2)) aNil))) aNil))) aNil))) aNil [some (.d (.list (ns.map .int))), some (.r 1), none] s) fun ds s1 => ds = [.d (.tuple [.str "apart", .tuple [.tuple [.int 0, .int 1], .tuple [.int 1, .int 2]]])] ∧ s1 = s := fun s => by
        simp only [Rs_nil, R_call, R_cons, R_nil, R_Var, R_C, R_bin, R_cmp, R_tcmp, R_tOr, R_tAnd, R_tNot, R_tVal, R_tTrue, R_ite, R_eAnd, R_eOr, R_eNot, R_neg, R_tup, R_isi, R_some, Rc_some, N.v_eq, N.v_ne, N.v_lt, N.v_le, N.v_gt, N.v_ge, N.v_add, N.v_sub, N.v_iadd, N.v_xor, N.v_int, N.tru_b, N.pd_d, N.data_nil, N.data_cons, N.len_t, N.v_tupT, N.g_name, N.isNone_n, N.isNone_t, N.isNone_i, N.v_isN, N.v_isNn, N.v_eqB, N.v_neB, List.set_cons_succ, List.set_cons_zero, List.getElem?_cons_succ, List.getElem?_cons_zero, Bool.not_true, Bool.not_false, Bool.false_eq_true, Bool.true_eq_false, eq_self, true_implies, false_implies, true_and, and_true, decide_true, decide_false, Int.zero_add, N.R_sl, N.R_it, R_oNone, R_oSome, wipeN, N.R_lst, N.R_mkF, N.R_mkT, N.R_meth, N.v_addT, Ri_rng1, Ri_rng2, Ri_seq]
        simp [lim]
      have h4 := R.eq (c4 s3)
      rw [h4, R_some]
      refine R_same ?_ ?_
      · rw [← td]
        refine sok_tup (by simp [lim]) fun x hx => ?_
        simp only [List.mem_cons, List.not_mem_nil, or_false] at hx
        rcases hx with rfl | rfl
        · unfold sok wordP; trivial
        · refine sok_tup (by rw [ta_path]; simp [lim]) fun x hx => ?_
          obtain ⟨e, _, rfl⟩ := List.mem_map.mp hx
          refine sok_tup (by simp [lim]) fun x hx => ?_
          simp only [List.mem_cons, List.not_mem_nil, or_false] at hx
          rcases hx with rfl | rfl <;> exact sok_int _ _
      · simp only [N.thn_rt, R_retd]
  obtain ⟨x, s', h, rfl⟩ := this
  exact ⟨s', h⟩
end T72

namespace T72
open PySem L2 PyProof.Rows N
open Z (Dfn)
section
variable {P : Program} {w : World} {K : PySem.W.Frag} {mg : Str → Option Value}
structure Ds (K : PySem.W.Frag) (mg : Str → Option Value) : Prop where
  d_is_number : Dfn K mg "is_number" s_is_number ["value", "least", "most"]
  d_is_ascending : Dfn K mg "is_ascending" s_is_ascending ["rows"]
  d_is_way : Dfn K mg "is_way" s_is_way ["n", "value"]
  d_is_park : Dfn K mg "is_park" s_is_park ["value"]
  d_near : Dfn K mg "near" s_near ["park"]
  d_steps_from : Dfn K mg "steps_from" s_steps_from ["park", "place"]
  d_is_corner : Dfn K mg "is_corner" s_is_corner ["rows", "left", "u", "v"]
  d_corners : Dfn K mg "corners" s_corners ["park", "left"]
  d_take_apart : Dfn K mg "take_apart" s_take_apart ["park"]
  d_left_behind : Dfn K mg "left_behind" s_left_behind ["park", "value"]
  d_is_apart : Dfn K mg "is_apart" s_is_apart ["park", "value"]
  d_is_stuck : Dfn K mg "is_stuck" s_is_stuck ["park", "value"]
  d__law_flat : Dfn K mg "_law_flat" s__law_flat ["rows"]
  d__law_box : Dfn K mg "_law_box" s__law_box ["script"]
  d__law_load : Dfn K mg "_law_load" s__law_load ["box"]
  d__law_draw : Dfn K mg "_law_draw" s__law_draw ["box", "many"]
  d__law_same : Dfn K mg "_law_same" s__law_same ["a", "b"]
  d__law_bent : Dfn K mg "_law_bent" s__law_bent ["box", "value"]
  d__law_park : Dfn K mg "_law_park" s__law_park ["box", "most"]
  d__law_near : Dfn K mg "_law_near" s__law_near ["park"]
  d__law_is_corner : Dfn K mg "_law_is_corner" s__law_is_corner ["rows", "left", "u", "v"]
  d__law_corners : Dfn K mg "_law_corners" s__law_corners ["rows", "left"]
  d__law_left : Dfn K mg "_law_left" s__law_left ["park", "value"]
  d__law_apart : Dfn K mg "_law_apart" s__law_apart ["box", "park"]
  d__law_is_park : Dfn K mg "_law_is_park" s__law_is_park ["value"]
  d__law_wins : Dfn K mg "_law_wins" s__law_wins ["park"]
  d__law_far : Dfn K mg "_law_far" s__law_far ["rows", "place"]
  d__law_fine : Dfn K mg "_law_fine" s__law_fine ["box", "park"]
  n : Nm mg
  g : Gm mg
theorem gv_int {h : Heap} {n : Str} {i : Int} {t : Tok} (X : K.In h) (G : h.Ns PySem.mainGlobals mg) (e : PySem.W.nsIn K PySem.mainGlobals n = some (some (.int i t))) : Gv mg n (.int i) := ⟨.int i, .int i t, PySem.W.mg_of X G e, ⟨t, rfl⟩, rfl⟩
theorem all_mk {h : Heap} {fa f2 : Addr} (X : K.In h) (G : h.Ns PySem.mainGlobals mg) (hfa : mg "law" = some (.ref fa)) (D : Ds K mg) {od2 an2 : Option Addr} {sl2 : Array (Option Value)} {oc2 kV2 dc2 pm2 cd2 ct2 : Value}
    (a2 : PySem.W.nsIn K PySem.mainGlobals "law" = some (some (.ref f2))) (l2 : K.lookup f2 = some ⟨oc2, od2, .func (PySem.W.fnOf "law" "law" (defArgs s_law) (defBody s_law) (defScope s_law) .none kV2 dc2 pm2 an2 cd2 ct2), sl2⟩) (c2 : PySem.W.codeIn K cd2 "law" = true) (k2 : PySem.W.keepIn K (.ref f2) = true) :
    ∃ fd : FuncData, (∀ (s : Shared) (v : Value), BindsTo s fd ⟨[v], []⟩ [("script", v)]) ∧ ∀ base : Heap, K.In base → base.Ns PySem.mainGlobals mg → FnOk P w K mg base CX0 11 fa fd ["script"] (spE K) := by
  have e := hfa.symm.trans (PySem.W.mg_of X G a2)
  cases e
  obtain ⟨fd, F2, hB⟩ : ∃ fd, Fun K "law" "law" s_law fa fd ∧ ∀ (s : Shared) (v : Value), BindsTo s fd ⟨[v], []⟩ [("script", v)] := ⟨_, fun_mk (st := s_law) l2 c2 k2, fun s v => .of_eq rfl⟩
  refine ⟨fd, hB, fun base _ _ => ?_⟩
  have h_is_number := c_is_number (P := P) (w := w) (base := base) D.d_is_number D.n D.g 
  have h_is_ascending := c_is_ascending (P := P) (w := w) (base := base) D.d_is_ascending D.n D.g 
  have h_is_way := c_is_way (P := P) (w := w) (base := base) D.d_is_way D.n D.g h_is_number
  have h_is_park := c_is_park (P := P) (w := w) (base := base) D.d_is_park D.n D.g h_is_ascending h_is_number h_is_way
  have h_near := c_near (P := P) (w := w) (base := base) D.d_near D.n D.g 
  have h_steps_from := c_steps_from (P := P) (w := w) (base := base) D.d_steps_from D.n D.g h_near
  have h_is_corner := c_is_corner (P := P) (w := w) (base := base) D.d_is_corner D.n D.g 
  have h_corners := c_corners (P := P) (w := w) (base := base) D.d_corners D.n D.g h_is_corner h_near
  have h_take_apart := c_take_apart (P := P) (w := w) (base := base) D.d_take_apart D.n D.g h_corners
  have h_left_behind := c_left_behind (P := P) (w := w) (base := base) D.d_left_behind D.n D.g h_is_corner h_is_number h_near
  have h_is_apart := c_is_apart (P := P) (w := w) (base := base) D.d_is_apart D.n D.g h_left_behind
  have h_is_stuck := c_is_stuck (P := P) (w := w) (base := base) D.d_is_stuck D.n D.g h_corners h_left_behind
  have h__law_flat := c__law_flat (P := P) (w := w) (base := base) D.d__law_flat D.n D.g 
  have ho__law_flat := co__law_flat (P := P) (w := w) (base := base) D.d__law_flat D.n D.g 
  have h__law_box := c__law_box (P := P) (w := w) (base := base) D.d__law_box D.n D.g 
  have h__law_load := c__law_load (P := P) (w := w) (base := base) D.d__law_load D.n D.g 
  have h__law_draw := c__law_draw (P := P) (w := w) (base := base) D.d__law_draw D.n D.g h__law_load
  have h__law_same := c__law_same (P := P) (w := w) (base := base) D.d__law_same D.n D.g 
  have h__law_bent := c__law_bent (P := P) (w := w) (base := base) D.d__law_bent D.n D.g h__law_draw
  have h__law_park := c__law_park (P := P) (w := w) (base := base) D.d__law_park D.n D.g h__law_draw
  have h__law_near := c__law_near (P := P) (w := w) (base := base) D.d__law_near D.n D.g 
  have h__law_is_corner := c__law_is_corner (P := P) (w := w) (base := base) D.d__law_is_corner D.n D.g 
  have h__law_corners := c__law_corners (P := P) (w := w) (base := base) D.d__law_corners D.n D.g h__law_flat h__law_is_corner
  have h__law_left := c__law_left (P := P) (w := w) (base := base) D.d__law_left D.n D.g h__law_is_corner h__law_near
  have h__law_apart := c__law_apart (P := P) (w := w) (base := base) D.d__law_apart D.n D.g h__law_corners h__law_draw h__law_near
  have h__law_is_park := c__law_is_park (P := P) (w := w) (base := base) D.d__law_is_park D.n D.g 
  have h__law_wins := c__law_wins (P := P) (w := w) (base := base) D.d__law_wins D.n D.g h__law_flat h__law_near ho__law_flat
  have h__law_far := c__law_far (P := P) (w := w) (base := base) D.d__law_far D.n D.g h__law_flat
  have h__law_fine := c__law_fine (P := P) (w := w) (base := base) D.d__law_fine D.n D.g h__law_apart (h__law_bent 6) h__law_corners h__law_draw h__law_far h__law_is_park h__law_left h__law_near (h__law_same 6) h__law_wins h_corners h_is_apart h_is_park h_is_stuck h_near h_steps_from h_take_apart
  exact c_law F2 D.n D.g h__law_box h__law_fine h__law_park (h__law_same 6) h_take_apart fun ns hl => run hl
end
end T72
open PySem PySem.W PyProof.Rows
set_option maxHeartbeats 0 in
theorem PySem.Challenge.cw_cantmove_k72_whole_parks_taken_apart_holds : PySem.Challenge.rw_cantmove_k72_whole_parks_taken_apart.Holds := by
  w_on; o_law; k_head; (case hw => w_witness2)
  k_fill
  refine L2.walk_ofB (l := PySem.Challenge.rw_cantmove_k72_whole_parks_taken_apart) (n := 63) (k := 11) (x := "script") (CX := fun _ => L2.CX0) (sp := fun w => N.spE _) rfl (by decide) rfl ⟨rfl, by decide, by decide⟩ (fun w h Y => PySem.W.kIn_of Y) ?F (fun _ _ a ns hl _ _ hS => N.head_ok hl hS) (fun _ _ _ _ _ h => h)
  case F =>
    intro w mg fa h KX G hmg
    refine' T72.all_mk KX G hmg ?D ?a2 ?l2 ?c2 ?k2
    (case a2 => k_is); (case l2 => k_is); (case c2 => k_is); (case k2 => k_is)
    case D =>
      constructor
      · refine' Z.fn_dfn KX G ?aD ?lD ?cD ?kD (fun _ _ _ _ _ _ us hl => match us, hl with | [_, _, _], _ => rfl)
        (case aD => k_is); (case lD => k_is); (case cD => k_is); (case kD => k_is)
      · refine' Z.fn_dfn KX G ?aD ?lD ?cD ?kD (fun _ _ _ _ _ _ us hl => match us, hl with | [_], _ => rfl)
        (case aD => k_is); (case lD => k_is); (case cD => k_is); (case kD => k_is)
      · refine' Z.fn_dfn KX G ?aD ?lD ?cD ?kD (fun _ _ _ _ _ _ us hl => match us, hl with | [_, _], _ => rfl)
        (case aD => k_is); (case lD => k_is); (case cD => k_is); (case kD => k_is)
      · refine' Z.fn_dfn KX G ?aD ?lD ?cD ?kD (fun _ _ _ _ _ _ us hl => match us, hl with | [_], _ => rfl)
        (case aD => k_is); (case lD => k_is); (case cD => k_is); (case kD => k_is)
      · refine' Z.fn_dfn KX G ?aD ?lD ?cD ?kD (fun _ _ _ _ _ _ us hl => match us, hl with | [_], _ => rfl)
        (case aD => k_is); (case lD => k_is); (case cD => k_is); (case kD => k_is)
      · refine' Z.fn_dfn KX G ?aD ?lD ?cD ?kD (fun _ _ _ _ _ _ us hl => match us, hl with | [_, _], _ => rfl)
        (case aD => k_is); (case lD => k_is); (case cD => k_is); (case kD => k_is)
      · refine' Z.fn_dfn KX G ?aD ?lD ?cD ?kD (fun _ _ _ _ _ _ us hl => match us, hl with | [_, _, _, _], _ => rfl)
        (case aD => k_is); (case lD => k_is); (case cD => k_is); (case kD => k_is)
      · refine' Z.fn_dfn KX G ?aD ?lD ?cD ?kD (fun _ _ _ _ _ _ us hl => match us, hl with | [_, _], _ => rfl)
        (case aD => k_is); (case lD => k_is); (case cD => k_is); (case kD => k_is)
      · refine' Z.fn_dfn KX G ?aD ?lD ?cD ?kD (fun _ _ _ _ _ _ us hl => match us, hl with | [_], _ => rfl)
        (case aD => k_is); (case lD => k_is); (case cD => k_is); (case kD => k_is)
      · refine' Z.fn_dfn KX G ?aD ?lD ?cD ?kD (fun _ _ _ _ _ _ us hl => match us, hl with | [_, _], _ => rfl)
        (case aD => k_is); (case lD => k_is); (case cD => k_is); (case kD => k_is)
      · refine' Z.fn_dfn KX G ?aD ?lD ?cD ?kD (fun _ _ _ _ _ _ us hl => match us, hl with | [_, _], _ => rfl)
        (case aD => k_is); (case lD => k_is); (case cD => k_is); (case kD => k_is)
      · refine' Z.fn_dfn KX G ?aD ?lD ?cD ?kD (fun _ _ _ _ _ _ us hl => match us, hl with | [_, _], _ => rfl)
        (case aD => k_is); (case lD => k_is); (case cD => k_is); (case kD => k_is)
      · refine' Z.fn_dfn KX G ?aD ?lD ?cD ?kD (fun _ _ _ _ _ _ us hl => match us, hl with | [_], _ => rfl)
        (case aD => k_is); (case lD => k_is); (case cD => k_is); (case kD => k_is)
      · refine' Z.fn_dfn KX G ?aD ?lD ?cD ?kD (fun _ _ _ _ _ _ us hl => match us, hl with | [_], _ => rfl)
        (case aD => k_is); (case lD => k_is); (case cD => k_is); (case kD => k_is)
      · refine' Z.fn_dfn KX G ?aD ?lD ?cD ?kD (fun _ _ _ _ _ _ us hl => match us, hl with | [_], _ => rfl)
        (case aD => k_is); (case lD => k_is); (case cD => k_is); (case kD => k_is)
      · refine' Z.fn_dfn KX G ?aD ?lD ?cD ?kD (fun _ _ _ _ _ _ us hl => match us, hl with | [_, _], _ => rfl)
        (case aD => k_is); (case lD => k_is); (case cD => k_is); (case kD => k_is)
      · refine' Z.fn_dfn KX G ?aD ?lD ?cD ?kD (fun _ _ _ _ _ _ us hl => match us, hl with | [_, _], _ => rfl)
        (case aD => k_is); (case lD => k_is); (case cD => k_is); (case kD => k_is)
      · refine' Z.fn_dfn KX G ?aD ?lD ?cD ?kD (fun _ _ _ _ _ _ us hl => match us, hl with | [_, _], _ => rfl)
        (case aD => k_is); (case lD => k_is); (case cD => k_is); (case kD => k_is)
      · refine' Z.fn_dfn KX G ?aD ?lD ?cD ?kD (fun _ _ _ _ _ _ us hl => match us, hl with | [_, _], _ => rfl)
        (case aD => k_is); (case lD => k_is); (case cD => k_is); (case kD => k_is)
      · refine' Z.fn_dfn KX G ?aD ?lD ?cD ?kD (fun _ _ _ _ _ _ us hl => match us, hl with | [_], _ => rfl)
        (case aD => k_is); (case lD => k_is); (case cD => k_is); (case kD => k_is)
      · refine' Z.fn_dfn KX G ?aD ?lD ?cD ?kD (fun _ _ _ _ _ _ us hl => match us, hl with | [_, _, _, _], _ => rfl)
        (case aD => k_is); (case lD => k_is); (case cD => k_is); (case kD => k_is)
      · refine' Z.fn_dfn KX G ?aD ?lD ?cD ?kD (fun _ _ _ _ _ _ us hl => match us, hl with | [_, _], _ => rfl)
        (case aD => k_is); (case lD => k_is); (case cD => k_is); (case kD => k_is)
      · refine' Z.fn_dfn KX G ?aD ?lD ?cD ?kD (fun _ _ _ _ _ _ us hl => match us, hl with | [_, _], _ => rfl)
        (case aD => k_is); (case lD => k_is); (case cD => k_is); (case kD => k_is)
      · refine' Z.fn_dfn KX G ?aD ?lD ?cD ?kD (fun _ _ _ _ _ _ us hl => match us, hl with | [_, _], _ => rfl)
        (case aD => k_is); (case lD => k_is); (case cD => k_is); (case kD => k_is)
      · refine' Z.fn_dfn KX G ?aD ?lD ?cD ?kD (fun _ _ _ _ _ _ us hl => match us, hl with | [_], _ => rfl)
        (case aD => k_is); (case lD => k_is); (case cD => k_is); (case kD => k_is)
      · refine' Z.fn_dfn KX G ?aD ?lD ?cD ?kD (fun _ _ _ _ _ _ us hl => match us, hl with | [_], _ => rfl)
        (case aD => k_is); (case lD => k_is); (case cD => k_is); (case kD => k_is)
      · refine' Z.fn_dfn KX G ?aD ?lD ?cD ?kD (fun _ _ _ _ _ _ us hl => match us, hl with | [_, _], _ => rfl)
        (case aD => k_is); (case lD => k_is); (case cD => k_is); (case kD => k_is)
      · refine' Z.fn_dfn KX G ?aD ?lD ?cD ?kD (fun _ _ _ _ _ _ us hl => match us, hl with | [_, _], _ => rfl)
        (case aD => k_is); (case lD => k_is); (case cD => k_is); (case kD => k_is)
      · constructor
        · refine' PySem.W.mg_none_of KX G ?zD
          (case zD => k_is)
        · refine' PySem.W.mg_none_of KX G ?zD
          (case zD => k_is)
        · refine' PySem.W.mg_none_of KX G ?zD
          (case zD => k_is)
        · refine' PySem.W.mg_none_of KX G ?zD
          (case zD => k_is)
        · refine' PySem.W.mg_none_of KX G ?zD
          (case zD => k_is)
        · refine' PySem.W.mg_none_of KX G ?zD
          (case zD => k_is)
        · refine' PySem.W.mg_none_of KX G ?zD
          (case zD => k_is)
        · refine' PySem.W.mg_none_of KX G ?zD
          (case zD => k_is)
        · refine' PySem.W.mg_none_of KX G ?zD
          (case zD => k_is)
        · refine' PySem.W.mg_none_of KX G ?zD
          (case zD => k_is)
        · refine' PySem.W.mg_none_of KX G ?zD
          (case zD => k_is)
        · refine' PySem.W.mg_none_of KX G ?zD
          (case zD => k_is)
        · refine' PySem.W.mg_none_of KX G ?zD
          (case zD => k_is)
        · refine' PySem.W.mg_none_of KX G ?zD
          (case zD => k_is)
      · constructor
        · refine' T72.gv_int KX G ?zD
          (case zD => k_is)

