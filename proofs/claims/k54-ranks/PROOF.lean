import PyProof.Rows.All
import Wide.All
import OpenK.AllK
import Wide.FinOn
import HandS.ForExc
import HandS.ForMost
import HandS.Wide
import HandS.EndBits
import HandS.Codes
import HandS.Deep
import HandS.TupAny
import HandS.TupMul
import HandS.TupLe
import HandS.Flow
import HandS.Conv
import HandS.Style
import HandS.IsInst
import KE.SortData
import KE.DataEq
import HandS.TupSets
import KE.GoesMore
import HandS.DictComp
import KE.KDictSum
import KE.KTupSum
import KE.DataMinMax
import PyProof.TupleOfSeq
import HandS.SetFor
import HandS.Strs
import HandS.SetIn
import KE.KDictPairs
import PyProof.LongRange
import HandS.Small
import PySem.Challenge.RW_cantmove_k54_whole_ranks
set_option Elab.async false
set_option linter.all false
set_option autoImplicit false
set_option maxRecDepth 100000
set_option maxHeartbeats 4000000
namespace Z
open PySem L2

def Ext (F H : Hp) : Prop := ∀ a o, F a = some o → H a = some o
theorem Ext.refl (F : Hp) : Ext F F := fun _ _ h => h
theorem Ext.trans {F G H : Hp} (a : Ext F G) (b : Ext G H) : Ext F H := fun x o h => b x o (a x o h)
theorem Ext.up {F : Hp} {p : Addr} {o : HO} (h : F p = none) : Ext F (upd F p o) := fun a u e => by
  rw [upd_ne (ne_of_none e h)]
  exact e
theorem Ext.rd {F H : Hp} {a : Addr} {u : HO} (e : Ext F H) (h : Rd F a u) : Rd H a u := by
  rcases h with h | ⟨o, h⟩
  · exact .inl (e a _ h)
  · exact .inr ⟨o, e a _ h⟩
theorem Ext.l {K : PySem.W.Frag} {F H : Hp} {a : Addr} {xs : List V} (e : Ext F H) (h : SqL K F a xs) : SqL K H a xs := h.elim (fun z => .inl (e.rd z)) .inr
theorem Ext.t {K : PySem.W.Frag} {F H : Hp} {a : Addr} {xs : List V} (e : Ext F H) (h : SqT K F a xs) : SqT K H a xs := h.elim (fun z => .inl (e.rd z)) .inr

mutual
theorem dpUp {K : PySem.W.Frag} {F H : Hp} (e : Ext F H) : ∀ (d : PyData) (v : V), Dp K F v d → Dp K H v d
  | .none, _, h => by cases h; exact .non
  | .bool b, _, h => by cases h; exact .bl b
  | .int i, _, h => by cases h; exact .int i
  | .str x, _, h => by cases h; exact .str x
  | .list ds, _, h => by
    cases h with
    | lst hs ha => exact .lst (e.l hs) (dpsUp e ds _ ha)
  | .tuple ds, _, h => by
    cases h with
    | tup hs ha => exact .tup (e.t hs) (dpsUp e ds _ ha)
  | .dict _, _, h => by cases h
theorem dpsUp {K : PySem.W.Frag} {F H : Hp} (e : Ext F H) : ∀ (ds : List PyData) (vs : List V), DpAll K F vs ds → DpAll K H vs ds
  | [], _, h => by cases h; exact .nil
  | d :: ds, _, h => by
    cases h with
    | cons h1 h2 => exact .cons (dpUp e d _ h1) (dpsUp e ds _ h2)
end
theorem dpsLen {K : PySem.W.Frag} {F : Hp} : ∀ {ds : List PyData} {vs : List V}, DpAll K F vs ds → vs.length = ds.length
  | [], _, h => by cases h; rfl
  | d :: ds, _, h => by
    cases h with
    | cons h1 h2 => simp [dpsLen h2]
theorem dpsGet {K : PySem.W.Frag} {F : Hp} : ∀ {ds : List PyData} {vs : List V} {i : Nat} {x : PyData}, DpAll K F vs ds → ds[i]? = some x → ∃ v, vs[i]? = some v ∧ Dp K F v x
  | [], _, i, x, h, e => by simp at e
  | d :: ds, _, 0, x, h, e => by
    cases h with
    | cons h1 h2 => simp at e; subst e; exact ⟨_, rfl, h1⟩
  | d :: ds, _, i + 1, x, h, e => by
    cases h with
    | cons h1 h2 =>
      rw [List.getElem?_cons_succ] at e
      obtain ⟨v, h3, h4⟩ := dpsGet h2 e
      exact ⟨v, by rw [List.getElem?_cons_succ]; exact h3, h4⟩
theorem dpsApp {K : PySem.W.Frag} {F : Hp} : ∀ {ds es : List PyData} {vs ws : List V}, DpAll K F vs ds → DpAll K F ws es → DpAll K F (vs ++ ws) (ds ++ es)
  | [], _, _, _, h, g => by cases h; exact g
  | d :: ds, _, _, _, h, g => by
    cases h with
    | cons h1 h2 => exact .cons h1 (dpsApp h2 g)
theorem dpsTake {K : PySem.W.Frag} {F : Hp} : ∀ {ds : List PyData} {vs : List V} (n : Nat), DpAll K F vs ds → DpAll K F (vs.take n) (ds.take n)
  | _, _, 0, _ => .nil
  | [], _, n + 1, h => by cases h; exact .nil
  | d :: ds, _, n + 1, h => by
    cases h with
    | cons h1 h2 => exact .cons h1 (dpsTake n h2)
theorem dpsDrop {K : PySem.W.Frag} {F : Hp} : ∀ {ds : List PyData} {vs : List V} (n : Nat), DpAll K F vs ds → DpAll K F (vs.drop n) (ds.drop n)
  | _, _, 0, h => h
  | [], _, n + 1, h => by cases h; exact .nil
  | d :: ds, _, n + 1, h => by
    cases h with
    | cons h1 h2 => exact dpsDrop n h2
theorem dpsRev {K : PySem.W.Frag} {F : Hp} : ∀ {ds : List PyData} {vs : List V}, DpAll K F vs ds → DpAll K F vs.reverse ds.reverse
  | [], _, h => by cases h; exact .nil
  | d :: ds, _, h => by
    cases h with
    | cons h1 h2 => rw [List.reverse_cons, List.reverse_cons]; exact dpsApp (dpsRev h2) (.cons h1 .nil)
/-- a thing of its own: what is true of it (the frozen heap, the heap, the value, its addresses) -/
structure Own where
  holds : PySem.W.Frag → Hp → Hp → V → List Addr → Prop
  stay : ∀ {K : PySem.W.Frag} {F F' H H' : Hp} {v : V} {fp : List Addr}, holds K F H v fp → Ext F F' → (∀ a ∈ fp, ∀ o, H a = some o → H' a = some o) → holds K F' H' v fp

inductive IT where
  | un | d (x : PyData) | o (P : Own)
/-- an entry: what it is, its value -/
abbrev En := IT × Option V
def Ent (K : PySem.W.Frag) (F H : Hp) : IT → Option V → List Addr → Prop
  | .un, _, fp => fp = []
  | .d x, v, fp => fp = [] ∧ ∃ u, v = some u ∧ Dp K F u x
  | .o P, v, fp => ∃ u, v = some u ∧ P.holds K F H u fp
abbrev EF := En × List Addr
def fpsOf (L : List EF) : List Addr := L.flatMap (·.2)
structure Held (K : PySem.W.Frag) (F H : Hp) (L : List EF) : Prop where
  ext : Ext F H
  ent : ∀ x ∈ L, Ent K F H x.1.1 x.1.2 x.2
  nd : (fpsOf L).Nodup
  own : ∀ a ∈ fpsOf L, F a = none ∧ ∃ o, H a = some o
def OK (K : PySem.W.Frag) (l : List En) (H : Hp) : Prop := ∃ F L, L.map (·.1) = l ∧ Held K F H L

theorem mem_fps {L : List EF} {a : Addr} : a ∈ fpsOf L ↔ ∃ x ∈ L, a ∈ x.2 := by
  unfold fpsOf
  rw [List.mem_flatMap]
theorem Ent.up {K : PySem.W.Frag} {F F' H H' : Hp} (e : Ext F F') : ∀ {i : IT} {v : Option V} {fp : List Addr}, Ent K F H i v fp → (∀ a ∈ fp, ∀ o, H a = some o → H' a = some o) → Ent K F' H' i v fp
  | .un, _, _, h, _ => h
  | .d x, _, _, ⟨h1, u, h2, h3⟩, _ => ⟨h1, u, h2, dpUp e x u h3⟩
  | .o P, _, _, ⟨u, h1, h2⟩, k => ⟨u, h1, P.stay h2 e k⟩

section
variable {K : PySem.W.Frag} {H H' : Hp} {l l' : List En}

theorem lift_perm : ∀ {l l' : List En} (p : l.Perm l') {L : List EF}, L.map (·.1) = l → ∃ L', L'.map (·.1) = l' ∧ L.Perm L' := by
  intro l l' p
  induction p with
  | nil => intro L h; exact ⟨L, h, .refl _⟩
  | cons x p ih =>
    intro L h
    cases L with
    | nil => simp at h
    | cons y L =>
      simp at h
      obtain ⟨h1, h2⟩ := h
      obtain ⟨L', e, q⟩ := ih h2
      exact ⟨y :: L', by simp [h1, e], q.cons y⟩
  | swap x y l =>
    intro L h
    match L, h with
    | a :: b :: L, h =>
      simp at h
      obtain ⟨h1, h2, h3⟩ := h
      exact ⟨b :: a :: L, by simp [h1, h2, h3], List.Perm.swap b a L⟩
  | trans p q ih1 ih2 =>
    intro L h
    obtain ⟨L1, e1, q1⟩ := ih1 h
    obtain ⟨L2, e2, q2⟩ := ih2 e1
    exact ⟨L2, e2, q1.trans q2⟩
theorem fps_perm {L L' : List EF} (p : L.Perm L') : (fpsOf L).Perm (fpsOf L') := by
  unfold fpsOf
  exact List.Perm.flatMap_right _ p
theorem Held.perm {F : Hp} {L L' : List EF} (p : L.Perm L') (h : Held K F H L) : Held K F H L' :=
  ⟨h.ext, fun x hx => h.ent x (p.mem_iff.mpr hx), (fps_perm p).nodup_iff.mp h.nd, fun a ha => h.own a ((fps_perm p).mem_iff.mpr ha)⟩
theorem OK.perm (p : l.Perm l') (h : OK K l H) : OK K l' H := by
  obtain ⟨F, L, e, g⟩ := h
  obtain ⟨L', e', q⟩ := lift_perm p e
  exact ⟨F, L', e', g.perm q⟩
theorem Held.tail {F : Hp} {x : EF} {L : List EF} (h : Held K F H (x :: L)) : Held K F H L :=
  ⟨h.ext, fun y hy => h.ent y (List.mem_cons_of_mem _ hy), (by
    have := h.nd
    unfold fpsOf at this
    rw [List.flatMap_cons] at this
    exact (List.nodup_append.mp this).2.1), fun a ha => h.own a (by
    unfold fpsOf
    rw [List.flatMap_cons]
    exact List.mem_append_right _ ha)⟩
theorem OK.tail {x : En} (h : OK K (x :: l) H) : OK K l H := by
  obtain ⟨F, L, e, g⟩ := h
  cases L with
  | nil => simp at e
  | cons y L => simp at e; exact ⟨F, L, e.2, g.tail⟩
theorem OK.right {k : List En} (h : OK K (k ++ l) H) : OK K l H := by
  induction k with
  | nil => exact h
  | cons x k ih => exact ih (OK.tail h)
theorem OK.left {k : List En} (h : OK K (l ++ k) H) : OK K l H := OK.right (k := k) (h.perm List.perm_append_comm)
theorem set_perm {α : Type} : ∀ {l : List α} {i : Nat} {y x : α}, l[i]? = some y → (x :: l).Perm (y :: l.set i x)
  | [], i, y, x, h => by simp at h
  | a :: l, 0, y, x, h => by
    simp at h
    subst h
    exact List.Perm.swap _ _ _
  | a :: l, i + 1, y, x, h => by
    have ih := set_perm (l := l) (i := i) (y := y) (x := x) (by simpa using h)
    rw [List.set_cons_succ]
    exact (List.Perm.swap a x l).trans ((ih.cons a).trans (List.Perm.swap y a _))
/-- a new entry in the place of the i-th -/
theorem OK.set {x : En} (i : Nat) (h : OK K (x :: l) H) : OK K (l.set i x) H := by
  cases e : l[i]? with
  | none =>
    rw [List.set_eq_of_length_le (List.getElem?_eq_none_iff.mp e)]
    exact h.tail
  | some y => exact (h.perm (set_perm e)).tail
/-- the i-th entry to the front, another in its place -/
theorem Held.unCons {F : Hp} {L : List EF} {v : Option V} (h : Held K F H L) : Held K F H (((IT.un, v), []) :: L) :=
  ⟨h.ext, fun y hy => by
    rcases List.mem_cons.mp hy with e | e
    · subst e; rfl
    · exact h.ent y e, by unfold fpsOf; rw [List.flatMap_cons]; exact h.nd, fun a ha => h.own a (by unfold fpsOf at ha ⊢; rw [List.flatMap_cons] at ha; exact ha)⟩
theorem OK.un {v : Option V} (h : OK K l H) : OK K ((IT.un, v) :: l) H := by
  obtain ⟨F, L, e, g⟩ := h
  exact ⟨F, ((IT.un, v), []) :: L, by rw [List.map_cons, e], g.unCons⟩
theorem OK.out {i : Nat} {x : IT} {v : Option V} (e : l[i]? = some (x, v)) (h : OK K l H) : OK K ((x, v) :: l.set i (IT.un, v)) H := (h.un (v := v)).perm (set_perm e)
/-- a known datum once more -/
theorem Held.dCons {F : Hp} {L : List EF} {v : V} {x : PyData} (h : Held K F H L) (hd : Dp K F v x) : Held K F H (((IT.d x, some v), []) :: L) :=
  ⟨h.ext, fun y hy => by
    rcases List.mem_cons.mp hy with e | e
    · subst e; exact ⟨rfl, v, rfl, hd⟩
    · exact h.ent y e, by unfold fpsOf; rw [List.flatMap_cons]; exact h.nd, fun a ha => h.own a (by unfold fpsOf at ha ⊢; rw [List.flatMap_cons] at ha; exact ha)⟩
theorem mem_map1 {L : List EF} {y : En} (h : y ∈ L.map (·.1)) : ∃ fp, (y, fp) ∈ L := by
  obtain ⟨z, hz, e⟩ := List.mem_map.mp h
  exact ⟨z.2, by rw [← e]; exact hz⟩
theorem OK.dup {x : PyData} {v : Option V} (m : (IT.d x, v) ∈ l) (h : OK K l H) : ∃ u, v = some u ∧ Dp K H u x ∧ OK K ((IT.d x, some u) :: l) H := by
  obtain ⟨F, L, e, g⟩ := h
  subst e
  obtain ⟨fp, hm⟩ := mem_map1 m
  obtain ⟨_, u, e1, hd⟩ := g.ent _ hm
  exact ⟨u, e1, dpUp g.ext x u hd, F, _, by simp, g.dCons hd⟩
/-- plain values need nothing of the heap -/
def flat : V → PyData → Prop
  | .non, .none => True
  | .bl b, .bool c => b = c
  | .int i, .int j => i = j
  | .str x, .str y => x = y
  | _, _ => False
theorem flatDp {F : Hp} {v : V} {x : PyData} (h : flat v x) : Dp K F v x := by
  cases v <;> cases x <;> first | exact h.elim | skip
  · exact .non
  · have e : _ = _ := h; subst e; exact .bl _
  · have e : _ = _ := h; subst e; exact .int _
  · have e : _ = _ := h; subst e; exact .str _
theorem OK.flat {x : PyData} {v : V} (f : flat v x) (h : OK K l H) : OK K ((IT.d x, some v) :: l) H := by
  obtain ⟨F, L, e, g⟩ := h
  exact ⟨F, _, by simp [e], g.dCons (flatDp f)⟩

def ds2 (ds : List PyData) (vs : List V) : List En := List.zipWith (fun x v => (IT.d x, some v)) ds vs
theorem held_ds {F : Hp} : ∀ {ds : List PyData} {vs : List V} {L : List EF}, ds.length = vs.length → L.map (·.1) = ds2 ds vs ++ l → Held K F H L → DpAll K F vs ds
  | [], [], L, _, _, _ => .nil
  | d :: ds, v :: vs, L, h, e, g => by
    cases L with
    | nil => simp [ds2] at e
    | cons y L =>
      simp only [ds2, List.zipWith_cons_cons, List.map_cons, List.cons_append, List.cons.injEq] at e
      obtain ⟨e1, e2⟩ := e
      have k := g.ent y List.mem_cons_self
      rw [e1] at k
      obtain ⟨_, u, eu, hd⟩ := k
      cases eu
      exact .cons hd (held_ds (by simpa using h) e2 g.tail)
  | [], v :: vs, L, h, _, _ => by simp at h
  | d :: ds, [], L, h, _, _ => by simp at h
theorem Held.grow {F F' : Hp} {L : List EF} (h : Held K F H L) (e1 : Ext F F') (e2 : Ext F' H') (k : ∀ a ∈ fpsOf L, ∀ o, H a = some o → H' a = some o) (n : ∀ a ∈ fpsOf L, F' a = none) : Held K F' H' L :=
  ⟨e2, fun x hx => (h.ent x hx).up e1 fun a ha o ho => k a (mem_fps.mpr ⟨x, hx, ha⟩) o ho, h.nd, fun a ha => ⟨n a ha, by
    obtain ⟨o, ho⟩ := (h.own a ha).2
    exact ⟨o, k a ha o ho⟩⟩⟩
theorem ext_none {F : Hp} {p : Addr} (e : Ext F H) (h : H p = none) : F p = none := by
  cases q : F p with
  | none => rfl
  | some o => rw [e p o q] at h; cases h
/-- a new thing laid, of the frozen part -/
theorem Held.frozen {F : Hp} {L : List EF} {p : Addr} {o : HO} (h : Held K F H L) (hp : H p = none) : Held K (upd F p o) (upd H p o) L := by
  have np : ∀ a ∈ fpsOf L, a ≠ p := fun a ha z => by
    obtain ⟨u, hu⟩ := (h.own a ha).2
    rw [z, hp] at hu
    cases hu
  refine h.grow (Ext.up (ext_none h.ext hp)) (fun a u q => ?_) (fun a ha u hu => ?_) fun a ha => ?_
  · by_cases e : a = p
    · subst e; rw [upd_same] at q ⊢; exact q
    · rw [upd_ne e] at q ⊢; exact h.ext a u q
  · rw [upd_ne (np a ha)]; exact hu
  · rw [upd_ne (np a ha)]; exact (h.own a ha).1
/-- .. of its own -/
theorem Held.fresh {F : Hp} {L : List EF} {p : Addr} {o : HO} (h : Held K F H L) (hp : H p = none) : Held K F (upd H p o) L :=
  h.grow (Ext.refl F) (fun a u q => by
    have e := h.ext a u q
    rw [upd_ne (ne_of_none e hp)]
    exact e) (fun a ha u hu => by rw [upd_ne (ne_of_none hu hp)]; exact hu) fun a ha => (h.own a ha).1
theorem OK.split {k : List En} (h : OK K (k ++ l) H) : ∃ F L1 L2, L1.map (·.1) = k ∧ L2.map (·.1) = l ∧ Held K F H (L1 ++ L2) := by
  obtain ⟨F, L, e, g⟩ := h
  obtain ⟨L1, L2, e1, e2, e3⟩ := List.map_eq_append_iff.mp e
  subst e1
  exact ⟨F, L1, L2, e2, e3, g⟩
theorem Held.right {F : Hp} {L1 L2 : List EF} (h : Held K F H (L1 ++ L2)) : Held K F H L2 := by
  induction L1 with
  | nil => exact h
  | cons x L ih => exact ih h.tail
theorem OK.tup {ds : List PyData} {vs : List V} {p : Addr} (hl : ds.length = vs.length) (h : OK K (ds2 ds vs ++ l) H) (hp : H p = none) : OK K ((IT.d (.tuple ds), some (.ref p)) :: l) (upd H p (.tup vs)) := by
  obtain ⟨F, L1, L2, e1, e2, g⟩ := h.split
  have q : DpAll K F vs ds := held_ds (l := l) hl (by rw [List.map_append, e1, e2]) g
  have q2 : DpAll K (upd F p (.tup vs)) vs ds := dpsUp (Ext.up (ext_none g.ext hp)) ds vs q
  exact ⟨_, _, by simp [e2], (g.right.frozen hp).dCons (.tup (.of upd_same) q2)⟩
/-- a list of its own -/
def OL (ds : List PyData) : Own where
  holds := fun K F H v fp => ∃ p vs, v = .ref p ∧ fp = [p] ∧ H p = some (.lst vs) ∧ DpAll K F vs ds
  stay := fun ⟨p, vs, e1, e2, e3, e4⟩ e k => ⟨p, vs, e1, e2, k p (by rw [e2]; simp) _ e3, dpsUp e _ _ e4⟩
theorem Held.oCons {F : Hp} {L : List EF} {v : V} {P : Own} {fp : List Addr} (h : Held K F H L) (hP : P.holds K F H v fp) (nd : fp.Nodup) (dj : ∀ a ∈ fp, a ∉ fpsOf L) (ow : ∀ a ∈ fp, F a = none ∧ ∃ o, H a = some o) : Held K F H (((IT.o P, some v), fp) :: L) := by
  refine ⟨h.ext, fun y hy => ?_, ?_, fun a ha => ?_⟩
  · rcases List.mem_cons.mp hy with e | e
    · subst e; exact ⟨v, rfl, hP⟩
    · exact h.ent y e
  · unfold fpsOf
    rw [List.flatMap_cons]
    exact List.nodup_append.mpr ⟨nd, h.nd, fun a ha b hb z => dj a ha (by rw [z]; exact hb)⟩
  · unfold fpsOf at ha
    rw [List.flatMap_cons] at ha
    rcases List.mem_append.mp ha with ha | ha
    · exact ow a ha
    · exact h.own a ha
theorem OK.lst {ds : List PyData} {vs : List V} {p : Addr} (hl : ds.length = vs.length) (h : OK K (ds2 ds vs ++ l) H) (hp : H p = none) : OK K ((IT.o (OL ds), some (.ref p)) :: l) (upd H p (.lst vs)) := by
  obtain ⟨F, L1, L2, e1, e2, g⟩ := h.split
  have q : DpAll K F vs ds := held_ds (l := l) hl (by rw [List.map_append, e1, e2]) g
  have g2 := g.right.fresh (o := .lst vs) hp
  refine ⟨F, _, by simp [e2], g2.oCons (v := .ref p) (P := OL ds) (fp := [p]) ⟨p, vs, rfl, rfl, upd_same, q⟩ (by simp) (fun a ha hb => ?_) fun a ha => ?_⟩
  · have e : a = p := by simpa using ha
    subst e
    obtain ⟨u, hu⟩ := (g.right.own a hb).2
    rw [hp] at hu
    cases hu
  · have e : a = p := by simpa using ha
    subst e
    exact ⟨ext_none g.ext hp, _, upd_same⟩
/-- an owned thing at the front is changed at addresses of its own -/
theorem Held.change {F : Hp} {L : List EF} {v : V} {P Q : Own} {fp : List Addr} (h : Held K F H (((IT.o P, some v), fp) :: L)) (hQ : Q.holds K F H' v fp) (k : ∀ a o, a ∉ fp → H a = some o → H' a = some o) (t : ∀ a ∈ fp, ∃ o, H' a = some o) :
    Held K F H' (((IT.o Q, some v), fp) :: L) := by
  have nd := h.nd
  unfold fpsOf at nd
  rw [List.flatMap_cons] at nd
  obtain ⟨n1, n2, n3⟩ := List.nodup_append.mp nd
  have own : ∀ a ∈ fp, F a = none := fun a ha => (h.own a (mem_fps.mpr ⟨_, List.mem_cons_self, ha⟩)).1
  refine (h.tail.grow (Ext.refl F) (fun a u q => k a u (fun z => by rw [own a z] at q; cases q) (h.ext a u q)) (fun a ha u hu => k a u (fun z => n3 a z a ha rfl) hu) fun a ha => (h.tail.own a ha).1).oCons hQ n1 (fun a ha hb => n3 a ha a hb rfl) fun a ha => ⟨own a ha, t a ha⟩
end
end Z

namespace Z
open PySem L2

def Fz (K : PySem.W.Frag) (F : Hp) (l : List En) (H : Hp) : Prop := ∃ L, L.map (·.1) = l ∧ Held K F H L
section
variable {K : PySem.W.Frag} {H H' F : Hp} {l l' : List En}
theorem OK.fz (h : OK K l H) : ∃ F, Fz K F l H := let ⟨F, L, e, g⟩ := h; ⟨F, L, e, g⟩
theorem Fz.ok (h : Fz K F l H) : OK K l H := let ⟨L, e, g⟩ := h; ⟨F, L, e, g⟩
theorem Fz.ext (h : Fz K F l H) : Ext F H := let ⟨_, _, g⟩ := h; g.ext
theorem Fz.perm (p : l.Perm l') (h : Fz K F l H) : Fz K F l' H := by
  obtain ⟨L, e, g⟩ := h
  obtain ⟨L', e', q⟩ := lift_perm p e
  exact ⟨L', e', g.perm q⟩
theorem Fz.tail {x : En} (h : Fz K F (x :: l) H) : Fz K F l H := by
  obtain ⟨L, e, g⟩ := h
  cases L with
  | nil => simp at e
  | cons y L => simp at e; exact ⟨L, e.2, g.tail⟩
theorem Fz.at {x : PyData} {v : Option V} (h : Fz K F l H) (m : (IT.d x, v) ∈ l) : ∃ u, v = some u ∧ Dp K F u x := by
  obtain ⟨L, e, g⟩ := h
  subst e
  obtain ⟨fp, hm⟩ := mem_map1 m
  obtain ⟨_, u, e1, hd⟩ := g.ent _ hm
  exact ⟨u, e1, hd⟩
theorem Fz.own {P : Own} {v : Option V} (h : Fz K F l H) (m : (IT.o P, v) ∈ l) : ∃ u fp, v = some u ∧ P.holds K F H u fp := by
  obtain ⟨L, e, g⟩ := h
  subst e
  obtain ⟨fp, hm⟩ := mem_map1 m
  obtain ⟨u, e1, hd⟩ := g.ent _ hm
  exact ⟨u, fp, e1, hd⟩
theorem Fz.add {x : PyData} {v : V} (h : Fz K F l H) (d : Dp K F v x) : Fz K F ((IT.d x, some v) :: l) H := by
  obtain ⟨L, e, g⟩ := h
  exact ⟨(((IT.d x, some v), []) :: L), by rw [List.map_cons, e], g.dCons d⟩
theorem Fz.un {v : Option V} (h : Fz K F l H) : Fz K F ((IT.un, v) :: l) H := by
  obtain ⟨L, e, g⟩ := h
  exact ⟨(((IT.un, v), []) :: L), by rw [List.map_cons, e], g.unCons⟩
theorem Fz.tup {ds : List PyData} {vs : List V} {p : Addr} (h : Fz K F l H) (q : DpAll K F vs ds) (hp : H p = none) : OK K ((IT.d (.tuple ds), some (.ref p)) :: l) (upd H p (.tup vs)) := by
  obtain ⟨L, e, g⟩ := h
  have q2 : DpAll K (upd F p (.tup vs)) vs ds := dpsUp (Ext.up (ext_none g.ext hp)) ds vs q
  exact ⟨_, _, by rw [List.map_cons, e], (g.frozen hp).dCons (v := .ref p) (.tup (.of upd_same) q2)⟩
/-- a new thing of its own, at one address -/
theorem Fz.newO {P : Own} {o : HO} {p : Addr} (h : Fz K F l H) (hp : H p = none) (hP : P.holds K F (upd H p o) (.ref p) [p]) : OK K ((IT.o P, some (.ref p)) :: l) (upd H p o) := by
  obtain ⟨L, e, g⟩ := h
  refine ⟨F, _, by rw [List.map_cons, e], (g.fresh (o := o) hp).oCons (v := .ref p) (P := P) (fp := [p]) hP (by simp) (fun a ha hb => ?_) fun a ha => ?_⟩
  · have e : a = p := by simpa using ha
    subst e
    obtain ⟨u, hu⟩ := (g.own a hb).2
    rw [hp] at hu
    cases hu
  · have e : a = p := by simpa using ha
    subst e
    exact ⟨ext_none g.ext hp, _, upd_same⟩
theorem Fz.lstO {ds : List PyData} {vs : List V} {p : Addr} (h : Fz K F l H) (q : DpAll K F vs ds) (hp : H p = none) : OK K ((IT.o (OL ds), some (.ref p)) :: l) (upd H p (.lst vs)) :=
  h.newO hp ⟨p, vs, rfl, rfl, upd_same, q⟩
/-- the list at the front is another one -/
theorem Fz.putL {ds ds' : List PyData} {v : V} (h : Fz K F ((IT.o (OL ds), some v) :: l) H) : ∃ p vs, v = .ref p ∧ H p = some (.lst vs) ∧ DpAll K F vs ds ∧
    ∀ ds' vs', DpAll K F vs' ds' → OK K ((IT.o (OL ds'), some v) :: l) (upd H p (.lst vs')) := by
  obtain ⟨L, e, g⟩ := h
  cases L with
  | nil => simp at e
  | cons y L =>
    obtain ⟨y1, fp⟩ := y
    simp at e
    obtain ⟨e1, e2⟩ := e
    subst e1
    obtain ⟨u, e3, p, vs, e4, e5, e6, e7⟩ := g.ent _ List.mem_cons_self
    have e3' : v = u := Option.some.inj e3
    subst e3'
    have e5' : fp = [p] := e5
    subst e5'
    refine ⟨p, vs, e4, e6, e7, fun ds' vs' q => ⟨F, _, ?_, g.change (H' := upd H p (.lst vs')) (Q := OL ds') ⟨p, vs', e4, rfl, upd_same, q⟩ (fun a o ha ho => ?_) fun a ha => ?_⟩⟩
    · rw [List.map_cons, e2]
    · rw [upd_ne (by simpa using ha)]; exact ho
    · have e : a = p := by simpa using ha
      subst e
      exact ⟨_, upd_same⟩
/-- the list at the front is kept for good -/
theorem Fz.freeze {ds : List PyData} {v : V} (h : Fz K F ((IT.o (OL ds), some v) :: l) H) : OK K ((IT.d (.list ds), some v) :: l) H := by
  obtain ⟨L, e, g⟩ := h
  cases L with
  | nil => simp at e
  | cons y L =>
    obtain ⟨y1, fp⟩ := y
    simp at e
    obtain ⟨e1, e2⟩ := e
    subst e1
    obtain ⟨u, e3, p, vs, e4, e5, e6, e7⟩ := g.ent _ List.mem_cons_self
    have e3' : v = u := Option.some.inj e3
    subst e3'
    have e5' : fp = [p] := e5
    subst e5'
    have nF : F p = none := (g.own p (mem_fps.mpr ⟨_, List.mem_cons_self, by simp⟩)).1
    have nd := g.nd
    unfold fpsOf at nd
    rw [List.flatMap_cons] at nd
    obtain ⟨_, _, n3⟩ := List.nodup_append.mp nd
    have g2 : Held K (upd F p (.lst vs)) H L := g.tail.grow (Ext.up nF) (fun a o q => by
      by_cases ea : a = p
      · subst ea; rw [upd_same] at q; cases q; exact e6
      · rw [upd_ne ea] at q; exact g.ext a o q) (fun _ _ _ q => q) fun a ha => by
        rw [upd_ne (fun z => n3 p (by simp) a ha z.symm)]
        exact (g.tail.own a ha).1
    refine ⟨upd F p (.lst vs), (((IT.d (.list ds), some v), []) :: L), by rw [List.map_cons, e2], g2.dCons ?_⟩
    subst e4
    exact .lst (.of upd_same) (dpsUp (Ext.up nF) _ _ e7)
end

inductive SD where
  | un | d (x : PyData) | r (j : Nat)
def itOf : SD → IT
  | .d x => .d x
  | _ => .un
structure S where
  e : List SD
  R : List Own
def ES (e : List SD) (σ : L2.St) : List En := List.zipWith (fun s v => (itOf s, v)) e σ
def RS (R : List Own) (ρ : List V) : List En := List.zipWith (fun P v => (IT.o P, some v)) R ρ
structure Sat (K : PySem.W.Frag) (s : S) (σ : L2.St) (ρ : List V) (T : List En) (H : Hp) : Prop where
  le : s.e.length = σ.length
  lr : s.R.length = ρ.length
  al : ∀ (i j : Nat), s.e[i]? = some (SD.r j) → ∃ v : V, σ[i]? = some (some v) ∧ ρ[j]? = some v
  ok : OK K (T ++ (ES s.e σ ++ RS s.R ρ)) H
/-- a value that is a reference is the one of the store -/
def VR (r : SD) (ρ : List V) (v : V) : Prop := match r with
  | .r j => ρ[j]? = some v
  | _ => True
theorem VR.mono {r : SD} {ρ ρ' : List V} {v : V} (h : VR r ρ v) (p : ρ <+: ρ') : VR r ρ' v := by
  cases r with
  | r j =>
    obtain ⟨m, rfl⟩ := p
    have h' : ρ[j]? = some v := h
    show (ρ ++ m)[j]? = some v
    rw [List.getElem?_append_left (List.getElem?_eq_some_iff.mp h').1]
    exact h'
  | _ => trivial

theorem es_get {e : List SD} {σ : L2.St} {i : Nat} {a : SD} {v : Option V} (h1 : e[i]? = some a) (h2 : σ[i]? = some v) : (ES e σ)[i]? = some (itOf a, v) := by
  unfold ES
  rw [List.getElem?_zipWith, h1, h2]
theorem rs_get {R : List Own} {ρ : List V} {i : Nat} {P : Own} {v : V} (h1 : R[i]? = some P) (h2 : ρ[i]? = some v) : (RS R ρ)[i]? = some (IT.o P, some v) := by
  unfold RS
  rw [List.getElem?_zipWith, h1, h2]
theorem get_of_len {α β : Type} {l : List α} {m : List β} (h : l.length = m.length) {i : Nat} {a : α} (e : l[i]? = some a) : ∃ b, m[i]? = some b := by
  obtain ⟨hi, _⟩ := List.getElem?_eq_some_iff.mp e
  exact ⟨m[i]'(by omega), List.getElem?_eq_getElem (by omega)⟩
section
variable {K : PySem.W.Frag} {s : S} {σ : L2.St} {ρ : List V} {T : List En} {H : Hp}
theorem Sat.tperm {T' : List En} (p : T.Perm T') (h : Sat K s σ ρ T H) : Sat K s σ ρ T' H := ⟨h.le, h.lr, h.al, h.ok.perm (p.append_right _)⟩
theorem Sat.tdrops {T1 : List En} (h : Sat K s σ ρ (T1 ++ T) H) : Sat K s σ ρ T H := ⟨h.le, h.lr, h.al, OK.right (k := T1) (by rw [← List.append_assoc]; exact h.ok)⟩
theorem Sat.slot {i : Nat} {x : PyData} (h : Sat K s σ ρ T H) (e : s.e[i]? = some (SD.d x)) : ∃ v : V, σ[i]? = some (some v) ∧ Sat K s σ ρ ((IT.d x, some v) :: T) H := by
  obtain ⟨ov, h2⟩ := get_of_len h.le e
  have m : (IT.d x, ov) ∈ T ++ (ES s.e σ ++ RS s.R ρ) := List.mem_append_right _ (List.mem_append_left _ (List.mem_of_getElem? (es_get e h2)))
  obtain ⟨u, e1, _, ok⟩ := h.ok.dup m
  subst e1
  exact ⟨u, h2, h.le, h.lr, h.al, ok⟩
/-- a store to a slot, of the value on top -/
theorem Sat.put {i : Nat} {r : SD} {v : V} (hi : i < s.e.length) (vr : VR r ρ v) (h : Sat K s σ ρ ((itOf r, some v) :: T) H) : Sat K ⟨s.e.set i r, s.R⟩ (σ.set i (some v)) ρ T H := by
  have hσ : i < σ.length := by rw [← h.le]; exact hi
  refine ⟨by simp [h.le], h.lr, fun k j e => ?_, ?_⟩
  · by_cases hk : k = i
    · subst hk
      simp only [List.getElem?_set_self hi, Option.some.injEq] at e
      subst e
      exact ⟨v, by rw [List.getElem?_set_self hσ], vr⟩
    · simp only [List.getElem?_set_ne (Ne.symm hk)] at e
      obtain ⟨w, e1, e2⟩ := h.al k j e
      exact ⟨w, by rw [List.getElem?_set_ne (Ne.symm hk)]; exact e1, e2⟩
  · have q : ES (s.e.set i r) (σ.set i (some v)) = (ES s.e σ).set i (itOf r, some v) := by
      unfold ES
      apply List.ext_getElem?
      intro k
      rw [List.getElem?_zipWith]
      by_cases hk : k = i
      · subst hk
        rw [List.getElem?_set_self hi, List.getElem?_set_self hσ, List.getElem?_set_self (by rw [List.length_zipWith]; omega)]
      · rw [List.getElem?_set_ne (Ne.symm hk), List.getElem?_set_ne (Ne.symm hk), List.getElem?_set_ne (Ne.symm hk), List.getElem?_zipWith]
    have hz : i < (ES s.e σ).length := by unfold ES; rw [List.length_zipWith]; omega
    have k : OK K ((T ++ (ES s.e σ ++ RS s.R ρ)).set (T.length + i) (itOf r, some v)) H := OK.set (T.length + i) h.ok
    rw [List.set_append_right _ _ (Nat.le_add_right _ _), Nat.add_sub_cancel_left, List.set_append_left _ _ hz, ← q] at k
    exact k
/-- a new object for the store, from the top -/
theorem Sat.push {P : Own} {v : V} (h : OK K ((IT.o P, some v) :: (T ++ (ES s.e σ ++ RS s.R ρ))) H) (le : s.e.length = σ.length) (lr : s.R.length = ρ.length) (al : ∀ (i j : Nat), s.e[i]? = some (SD.r j) → ∃ v : V, σ[i]? = some (some v) ∧ ρ[j]? = some v) :
    Sat K ⟨s.e, s.R ++ [P]⟩ σ (ρ ++ [v]) T H := by
  refine ⟨le, by simp [lr], fun i j e => ?_, ?_⟩
  · obtain ⟨w, e1, e2⟩ := al i j e
    exact ⟨w, e1, by rw [List.getElem?_append_left (List.getElem?_eq_some_iff.mp e2).1]; exact e2⟩
  · have q : RS (s.R ++ [P]) (ρ ++ [v]) = RS s.R ρ ++ [(IT.o P, some v)] := by
      unfold RS
      rw [List.zipWith_append lr]
      rfl
    rw [show (⟨s.e, s.R ++ [P]⟩ : S).R = s.R ++ [P] from rfl, q]
    refine h.perm ?_
    show ((IT.o P, some v) :: (T ++ (ES s.e σ ++ RS s.R ρ))).Perm (T ++ (ES s.e σ ++ (RS s.R ρ ++ [(IT.o P, some v)])))
    rw [← List.append_assoc, ← List.append_assoc, ← List.append_assoc]
    exact (List.perm_append_singleton _ _).symm
/-- the j-th object of the store to the front -/
theorem rs_set {R : List Own} {ρ : List V} (lr : R.length = ρ.length) {j : Nat} {P : Own} {v : V} (e : ρ[j]? = some v) : RS (R.set j P) ρ = (RS R ρ).set j (IT.o P, some v) := by
  obtain ⟨hj, ej⟩ := List.getElem?_eq_some_iff.mp e
  unfold RS
  apply List.ext_getElem?
  intro k
  rw [List.getElem?_zipWith]
  by_cases hk : k = j
  · subst hk
    rw [List.getElem?_set_self (by omega), e, List.getElem?_set_self (by simp [List.length_zipWith]; omega)]
  · rw [List.getElem?_set_ne (Ne.symm hk), List.getElem?_set_ne (Ne.symm hk), List.getElem?_zipWith]
theorem Sat.obj {j : Nat} {P : Own} (h : Sat K s σ ρ T H) (e : s.R[j]? = some P) : ∃ v, ρ[j]? = some v ∧
    OK K ((IT.o P, some v) :: (T ++ (ES s.e σ ++ (RS s.R ρ).set j (IT.un, some v)))) H ∧
    ∀ (H' : Hp) (Q : Own), OK K ((IT.o Q, some v) :: (T ++ (ES s.e σ ++ (RS s.R ρ).set j (IT.un, some v)))) H' → Sat K ⟨s.e, s.R.set j Q⟩ σ ρ T H' := by
  obtain ⟨v, h2⟩ := get_of_len h.lr e
  have g := rs_get e h2
  have hz : j < (RS s.R ρ).length := (List.getElem?_eq_some_iff.mp g).1
  have n1 : ∀ x : En, (T ++ (ES s.e σ ++ RS s.R ρ)).set (T.length + ((ES s.e σ).length + j)) x = T ++ (ES s.e σ ++ (RS s.R ρ).set j x) := fun x => by
    rw [List.set_append_right _ _ (Nat.le_add_right _ _), Nat.add_sub_cancel_left, List.set_append_right _ _ (Nat.le_add_right _ _), Nat.add_sub_cancel_left]
  refine ⟨v, h2, ?_, fun H' Q ok => ?_⟩
  · rw [← n1]
    refine h.ok.out ?_
    rw [List.getElem?_append_right (Nat.le_add_right _ _), Nat.add_sub_cancel_left, List.getElem?_append_right (Nat.le_add_right _ _), Nat.add_sub_cancel_left]
    exact g
  · refine ⟨h.le, by simpa using h.lr, h.al, ?_⟩
    have k := ok.set (T.length + ((ES s.e σ).length + j))
    rw [← n1, List.set_set, n1, ← rs_set h.lr h2] at k
    exact k
end
end Z

namespace Z
open PySem L2

def tE (K : PySem.W.Frag) (s : S) (r : SD) (s' : S) : TE := fun σ H Q => ∃ T ρ, Sat K s σ ρ T H ∧ ∀ v ρ' H', ρ <+: ρ' → VR r ρ' v → Sat K s' σ ρ' ((itOf r, some v) :: T) H' → Q v H'
def ZE (X : Cx) (ex : Expr) (s : S) (r : SD) (s' : S) : Prop := PE X ex (tE X.K s r s')
def tT (K : PySem.W.Frag) (s : S) (R : Bool → S → Prop) : TT := fun σ H Q => ∃ T ρ, Sat K s σ ρ T H ∧ ∀ b s' ρ' H', R b s' → ρ <+: ρ' → Sat K s' σ ρ' T H' → Q b H'
def ZT (X : Cx) (ex : Expr) (s : S) (R : Bool → S → Prop) : Prop := PT X ex (tT X.K s R)
def ZW (X : Cx) (ex : Expr) (s : S) (R : Bool → S → Prop) : Prop := PW X ex (tT X.K s R)
/-- just this answer -/
def Is (b : Bool) (s : S) : Bool → S → Prop := fun c t => c = b ∧ t = s
def its (rs : List SD) (vs : List V) : List En := List.zipWith (fun r v => (itOf r, some v)) rs vs
def VRs (rs : List SD) (ρ : List V) (vs : List V) : Prop := rs.length = vs.length ∧ ∀ (i : Nat) (r : SD) (v : V), rs[i]? = some r → vs[i]? = some v → VR r ρ v
def tA (K : PySem.W.Frag) (s : S) (rs : List SD) (s' : S) : TA := fun σ H Q => ∃ T ρ, Sat K s σ ρ T H ∧ ∀ vs ρ' H', ρ <+: ρ' → VRs rs ρ' vs → Sat K s' σ ρ' (its rs vs ++ T) H' → Q vs H'
structure Po where
  b : Nat
  nx : S → Prop
  rt : SD → S → Prop
  bk : S → Prop := fun _ => False
  ct : S → Prop := fun _ => False
structure Meets (K : PySem.W.Frag) (P : Po) (ρ : List V) (T : List En) (D : Ends) : Prop where
  nx : ∀ s' σ' ρ' H', P.nx s' → ρ <+: ρ' → Sat K s' σ' ρ' T H' → D.nx σ' H'
  rt : ∀ r s' σ' ρ' H' v, P.rt r s' → ρ <+: ρ' → VR r ρ' v → Sat K s' σ' ρ' ((itOf r, some v) :: T) H' → D.rt v H'
  bk : ∀ s' σ' ρ' H', P.bk s' → ρ <+: ρ' → Sat K s' σ' ρ' T H' → D.bk σ' H'
  ct : ∀ s' σ' ρ' H', P.ct s' → ρ <+: ρ' → Sat K s' σ' ρ' T H' → D.ct σ' H'
def tS (K : PySem.W.Frag) (M : S → Prop) (P : Po) : TS := fun D σ H => ∃ s T ρ, M s ∧ P.b ≤ ρ.length ∧ Sat K s σ ρ T H ∧ Meets K P (ρ.take P.b) T D
def ZSs (X : Cx) (sts : List Stmt) (s : S) (P : Po) : Prop := PSs X sts (tS X.K (fun t => t = s) P)

section
variable {X : Cx} {e a b c : Expr} {es : List Expr} {s s' s1 s2 s3 : S} {r r1 r2 : SD} {rs : List SD} {pos : Pos}
theorem PE.imp {t t' : TE} (h : PE X e t) (i : ∀ σ H Q, t' σ H Q → t σ H Q) : PE X e t' := ⟨fun pins s σ H Q I q => h.run pins s σ H Q I (i σ H Q q)⟩
theorem PT.imp {t t' : TT} (h : PT X e t) (i : ∀ σ H Q, t' σ H Q → t σ H Q) : PT X e t' := ⟨fun pins s σ H Q I q => h.run pins s σ H Q I (i σ H Q q)⟩
theorem PW.imp {t t' : TT} (h : PW X e t) (i : ∀ σ H Q, t' σ H Q → t σ H Q) : PW X e t' := ⟨fun w pins s σ H Q I q => h.run w pins s σ H Q I (i σ H Q q)⟩
theorem PA.imp {t t' : TA} (h : PA X es t) (i : ∀ σ H Q, t' σ H Q → t σ H Q) : PA X es t' := ⟨fun pos pins s σ H Q I q => h.run pos pins s σ H Q I (i σ H Q q)⟩
theorem PS.imp {st : Stmt} {t t' : TS} (h : PS X st t) (i : ∀ D σ H, t' D σ H → t D σ H) : PS X st t' := ⟨fun pins s σ H D I q => h.run pins s σ H D I (i D σ H q)⟩
theorem PSs.imp {st : List Stmt} {t t' : TS} (h : PSs X st t) (i : ∀ D σ H, t' D σ H → t D σ H) : PSs X st t' := ⟨fun pins s σ H D I q => h.run pins s σ H D I (i D σ H q)⟩
theorem pre_refl (ρ : List V) : ρ <+: ρ := List.prefix_rfl
theorem ZE.to (h : ZE X e s r s') (e1 : r = r1) (e2 : s' = s1) : ZE X e s r1 s1 := by subst e1 e2; exact h
theorem ZT.imp {R R' : Bool → S → Prop} (h : ZT X e s R) (i : ∀ b t, R b t → R' b t) : ZT X e s R' :=
  PT.imp h fun σ H Q ⟨T, ρ, g, q⟩ => ⟨T, ρ, g, fun b t ρ' H' hr p g' => q b t ρ' H' (i b t hr) p g'⟩
theorem ZW.imp {R R' : Bool → S → Prop} (h : ZW X e s R) (i : ∀ b t, R b t → R' b t) : ZW X e s R' :=
  PW.imp h fun σ H Q ⟨T, ρ, g, q⟩ => ⟨T, ρ, g, fun b t ρ' H' hr p g' => q b t ρ' H' (i b t hr) p g'⟩
theorem ZW.t {R : Bool → S → Prop} (h : ZW X e s R) : ZT X e s R := PW.pt h

section
variable {K : PySem.W.Frag} {σ : L2.St} {ρ : List V} {T : List En} {H : Hp} {v : V} {x : PyData}
theorem Sat.of (g : Sat K s σ ρ T H) {T' : List En} {H' : Hp} (h : OK K (T' ++ (ES s.e σ ++ RS s.R ρ)) H') : Sat K s σ ρ T' H' := ⟨g.le, g.lr, g.al, h⟩
end

/-- two values in, one out -/
def Bi (K : PySem.W.Frag) (q : R2) (s : S) (a b z : SD) (s' : S) : Prop := ∀ u w T σ ρ H Q, Sat K s σ ρ ((itOf b, some w) :: (itOf a, some u) :: T) H → VR a ρ u → VR b ρ w →
  (∀ v ρ' H', ρ <+: ρ' → VR z ρ' v → Sat K s' σ ρ' ((itOf z, some v) :: T) H' → Q v H') → q u w H Q
variable {z : SD}
theorem bi_run {q : R2} {ra rb : SD} (hq : Bi X.K q s2 ra rb z s3) : ∀ σ H Q, tE X.K s z s3 σ H Q → tOp q (tE X.K s ra s1) (tE X.K s1 rb s2) σ H Q := fun σ H Q ⟨T, ρ, g, k⟩ =>
  ⟨T, ρ, g, fun u ρ1 H1 p1 vr1 g1 => ⟨_, ρ1, g1, fun w ρ2 H2 p2 vr2 g2 => hq u w T σ ρ2 H2 Q g2 (vr1.mono p2) vr2 fun v ρ3 H3 p3 vr3 g3 => k v ρ3 H3 ((p1.trans p2).trans p3) vr3 g3⟩⟩
variable {i j : Int}
variable {x y : PyData} {ra rb : SD}
end
end Z

namespace Z
open PySem L2
section
variable {X : Cx} {e a b c : Expr} {es : List Expr} {s s' s1 s2 s3 : S} {r r1 r2 : SD} {rs : List SD} {pos : Pos} {R : Bool → S → Prop} {k : Bool}

theorem empty_len {α β : Type} {l : List α} {m : List β} (h : l.length = m.length) : l.isEmpty = m.isEmpty := by
  cases l <;> cases m <;> simp at h ⊢
theorem pe_noway {X : Cx} {e : Expr} : PE X e (fun _ _ _ => False) := ⟨fun _ _ _ _ _ _ h => h.elim⟩
/-- how a call of a global name with these arguments is read -/
def Cl (X : Cx) (x : Str) (e : Expr) (es : List Expr) (pos : Pos) : Prop := Gl X x ∧ starEach (e :: es) X.env = (false, eval e X.env) :: starEach es X.env ∧ (backTo pos (starEach es X.env)).any (·.1) = false
theorem vrs1 {ρ : List V} {us : List V} (h : VRs [r] ρ us) : ∃ u, us = [u] ∧ VR r ρ u := by
  obtain ⟨h1, h2⟩ := h
  match us, h1 with
  | [u], _ => exact ⟨u, rfl, h2 0 r u rfl rfl⟩
theorem vrs2 {ρ : List V} {us : List V} (h : VRs [r, r1] ρ us) : ∃ u w, us = [u, w] ∧ VR r ρ u ∧ VR r1 ρ w := by
  obtain ⟨h1, h2⟩ := h
  match us, h1 with
  | [u, w], _ => exact ⟨u, w, rfl, h2 0 r u rfl rfl, h2 1 r1 w rfl rfl⟩
variable {f p : Pos} {n : Nat} {i j : Int} {x y z : PyData} {ds : List PyData}
theorem PO.imp {X : Cx} {e : Option Expr} {t t' : TO} (h : PO X e t) (i : ∀ σ H Q, t' σ H Q → t σ H Q) : PO X e t' := ⟨fun pins s σ H Q I q => h.run pins s σ H Q I (i σ H Q q)⟩
def cut (xs : List PyData) (lo hi : Option Int) : List PyData := (xs.drop (HT.sIx xs.length 0 lo)).take (HT.sIx xs.length xs.length hi - HT.sIx xs.length 0 lo)
theorem dps_cut {K : PySem.W.Frag} {F : Hp} {vs : List V} {lo hi : Option Int} (h : DpAll K F vs ds) : DpAll K F (cutV vs lo hi) (cut ds lo hi) := by
  unfold cutV cut
  rw [dpsLen h]
  exact dpsTake _ (dpsDrop _ h)
variable {lo hi : Option Expr} {l u : Option Int} {p2 : Pos}
end
end Z

namespace Z
open PySem L2

def wkE : List SD → List SD → Prop
  | [], [] => True
  | a :: l, b :: m => (b = a ∨ b = .un) ∧ wkE l m
  | _, _ => False
/-- no reference at n or beyond -/
def low (n : Nat) : List SD → Prop
  | [] => True
  | .r j :: l => j < n ∧ low n l
  | _ :: l => low n l
theorem wkE_len : ∀ {l m : List SD}, wkE l m → m.length = l.length
  | [], [], _ => rfl
  | a :: l, b :: m, h => by simp [wkE_len h.2]
  | [], _ :: _, h => h.elim
  | _ :: _, [], h => h.elim
theorem wkE_get : ∀ {l m : List SD}, wkE l m → ∀ {i : Nat} {b : SD}, m[i]? = some b → ∃ a, l[i]? = some a ∧ (b = a ∨ b = .un)
  | [], [], _, i, b, e => by simp at e
  | a :: l, b :: m, h, 0, c, e => by simp at e; subst e; exact ⟨a, rfl, h.1⟩
  | a :: l, b :: m, h, i + 1, c, e => by
    rw [List.getElem?_cons_succ] at e
    obtain ⟨x, h1, h2⟩ := wkE_get h.2 e
    exact ⟨x, by rw [List.getElem?_cons_succ]; exact h1, h2⟩
  | [], _ :: _, h, _, _, _ => h.elim
  | _ :: _, [], h, _, _, _ => h.elim
theorem low_get {n : Nat} : ∀ {l : List SD}, low n l → ∀ {i j : Nat}, l[i]? = some (SD.r j) → j < n
  | [], _, i, j, e => by simp at e
  | .r k :: l, h, 0, j, e => by simp at e; subst e; exact h.1
  | .un :: l, h, 0, j, e => by simp at e
  | .d x :: l, h, 0, j, e => by simp at e
  | .r k :: l, h, i + 1, j, e => low_get (l := l) h.2 (by simpa using e)
  | .un :: l, h, i + 1, j, e => low_get (l := l) h (by simpa using e)
  | .d x :: l, h, i + 1, j, e => low_get (l := l) h (by simpa using e)
section
variable {K : PySem.W.Frag} {s : S} {σ : L2.St} {ρ : List V} {T : List En} {H : Hp}
theorem ok_es : ∀ {e e' : List SD} {σ : L2.St} {l : List En}, wkE e e' → OK K (ES e σ ++ l) H → OK K (ES e' σ ++ l) H
  | [], [], _, _, _, h => h
  | a :: e, b :: e', [], l, _, h => h
  | a :: e, b :: e', v :: σ, l, w, h => by
    have h1 : OK K (ES e σ ++ ((itOf a, v) :: l)) H := h.perm List.perm_middle.symm
    have h2 : OK K (ES e' σ ++ ((itOf a, v) :: l)) H := ok_es w.2 h1
    have h3 : OK K ((itOf b, v) :: (ES e' σ ++ l)) H := by
      have h4 : OK K ((itOf a, v) :: (ES e' σ ++ l)) H := h2.perm List.perm_middle
      rcases w.1 with z | z
      · rw [z]; exact h4
      · rw [z]; exact h4.tail.un
    exact h3
  | [], _ :: _, _, _, w, _ => w.elim
  | _ :: _, [], _, _, w, _ => w.elim
theorem Sat.trim {e' : List SD} {n : Nat} (g : Sat K s σ ρ T H) (w : wkE s.e e') (lw : low n e') : Sat K ⟨e', s.R.take n⟩ σ (ρ.take n) T H := by
  refine ⟨(wkE_len w).trans g.le, by simp [g.lr], fun i j e => ?_, ?_⟩
  · obtain ⟨a, h1, h2⟩ := wkE_get w e
    rcases h2 with z | z
    · subst z
      obtain ⟨v, e1, e2⟩ := g.al i j h1
      exact ⟨v, e1, by rw [List.getElem?_take_of_lt (low_get lw e)]; exact e2⟩
    · cases z
  · have h1 : OK K (ES e' σ ++ (RS s.R ρ ++ T)) H := by
      refine ok_es w (g.ok.perm ?_)
      exact (List.perm_append_comm).trans (by rw [List.append_assoc])
    have q : RS s.R ρ = RS (s.R.take n) (ρ.take n) ++ RS (s.R.drop n) (ρ.drop n) := by
      unfold RS
      rw [← List.zipWith_append (by simp [g.lr]), List.take_append_drop, List.take_append_drop]
    rw [q] at h1
    have h2 : OK K (RS (s.R.drop n) (ρ.drop n) ++ (T ++ (ES e' σ ++ RS (s.R.take n) (ρ.take n)))) H := by
      refine h1.perm ?_
      have p1 : (ES e' σ ++ (RS (s.R.take n) (ρ.take n) ++ RS (s.R.drop n) (ρ.drop n) ++ T)).Perm ((ES e' σ ++ RS (s.R.take n) (ρ.take n)) ++ (RS (s.R.drop n) (ρ.drop n) ++ T)) := by
        rw [List.append_assoc, List.append_assoc]
      refine p1.trans ?_
      refine (List.perm_append_comm).trans ?_
      rw [List.append_assoc]
    exact OK.right h2
end
theorem ZE.trim {X : Cx} {e : Expr} {s s1 : S} {x : PyData} {e' : List SD} {n : Nat} (h : ZE X e s (.d x) s1) (w : wkE s1.e e') (lw : low n e') (hn : s.R.length ≤ n) : ZE X e s (.d x) ⟨e', s1.R.take n⟩ :=
  PE.imp h fun σ H Q ⟨T, ρ, g, k⟩ => ⟨T, ρ, g, fun v ρ' H' p vr g' => k v (ρ'.take n) H' (by
    obtain ⟨m, rfl⟩ := p
    rw [List.take_append, List.take_of_length_le (by rw [← g.lr]; exact hn)]
    exact List.prefix_append _ _) trivial (g'.trim w lw)⟩
def gone : Own where
  holds := fun _ _ _ _ fp => fp = []
  stay := fun h _ _ => h
/-- a list that has just come, kept for good -/
theorem ZE.frz {X : Cx} {e : Expr} {s s1 : S} {j : Nat} {ds : List PyData} (h : ZE X e s (.r j) s1) (hj : s1.R[j]? = some (OL ds)) : ZE X e s (.d (.list ds)) ⟨s1.e, s1.R.set j gone⟩ :=
  PE.imp h fun σ H Q ⟨T, ρ, g, k⟩ => ⟨T, ρ, g, fun v ρ' H' p vr g' => k v ρ' H' p trivial (by
    obtain ⟨w, e2, ok, back⟩ := g'.obj hj
    have ev : w = v := Option.some.inj (e2.symm.trans vr)
    subst ev
    obtain ⟨F, f⟩ := ok.fz
    have f2 : OK X.K ((IT.d (.list ds), some w) :: (T ++ (ES s1.e σ ++ (RS s1.R ρ').set j (IT.un, some w)))) H' := (OK.perm (List.Perm.swap _ _ _) f.freeze).tail
    have f3 : OK X.K ((IT.o gone, some w) :: (((IT.d (.list ds), some w) :: T) ++ (ES s1.e σ ++ (RS s1.R ρ').set j (IT.un, some w)))) H' := by
      obtain ⟨F2, L, e1, gg⟩ := f2
      have c := gg.oCons (v := w) (P := gone) (fp := []) rfl List.nodup_nil (fun a ha => by cases ha) (fun a ha => by cases ha)
      exact ⟨F2, (((IT.o gone, some w), []) :: L), by rw [List.map_cons, e1]; rfl, c⟩
    exact back2 g' hj e2 f3)⟩
where
  back2 {K : PySem.W.Frag} {s : S} {σ : L2.St} {ρ : List V} {T T2 : List En} {H H' : Hp} {j : Nat} {P Q : Own} {w : V} (g : Sat K s σ ρ T H) (hj : s.R[j]? = some P) (e2 : ρ[j]? = some w)
      (ok : OK K ((IT.o Q, some w) :: (T2 ++ (ES s.e σ ++ (RS s.R ρ).set j (IT.un, some w)))) H') : Sat K ⟨s.e, s.R.set j Q⟩ σ ρ T2 H' := by
    have hz : j < (RS s.R ρ).length := (List.getElem?_eq_some_iff.mp (rs_get hj e2)).1
    refine ⟨g.le, by simpa using g.lr, g.al, ?_⟩
    have k := ok.set (T2.length + ((ES s.e σ).length + j))
    rw [List.set_append_right _ _ (Nat.le_add_right _ _), Nat.add_sub_cancel_left, List.set_append_right _ _ (Nat.le_add_right _ _), Nat.add_sub_cancel_left, List.set_set, ← rs_set g.lr e2] at k
    exact k

section
variable {X : Cx} {e a b c : Expr} {es : List Expr} {st : Stmt} {rest body orelse : List Stmt} {s s' s1 s2 s3 : S} {r r1 r2 : SD} {rs : List SD} {pos : Pos} {R : Bool → S → Prop} {k : Bool} {P : Po} {M : S → Prop}
theorem Meets.mono {K : PySem.W.Frag} {ρ ρ' : List V} {T : List En} {D : Ends} (h : Meets K P ρ T D) (p : ρ <+: ρ') : Meets K P ρ' T D :=
  ⟨fun s' σ' r' H' a q g => h.nx s' σ' r' H' a (p.trans q) g, fun x s' σ' r' H' v a q vr g => h.rt x s' σ' r' H' v a (p.trans q) vr g, fun s' σ' r' H' a q g => h.bk s' σ' r' H' a (p.trans q) g, fun s' σ' r' H' a q g => h.ct s' σ' r' H' a (p.trans q) g⟩
/-- a list of its own grows: xs.append(e) -/
theorem Sat.putL {K : PySem.W.Frag} {σ : L2.St} {ρ : List V} {T : List En} {H : Hp} {j : Nat} {ds : List PyData} (g : Sat K s σ ρ T H) (hj : s.R[j]? = some (OL ds)) :
    ∃ p vs F, ρ[j]? = some (.ref p) ∧ H p = some (.lst vs) ∧ DpAll K F vs ds ∧ (∀ {x v}, (IT.d x, some v) ∈ T → Dp K F v x) ∧ ∀ ds' vs', DpAll K F vs' ds' → Sat K ⟨s.e, s.R.set j (OL ds')⟩ σ ρ T (upd H p (.lst vs')) := by
  obtain ⟨v, e2, ok, back⟩ := g.obj hj
  obtain ⟨F, f⟩ := ok.fz
  obtain ⟨p, vs, e3, h1, h2, h3⟩ := f.putL (ds' := ds)
  subst e3
  refine ⟨p, vs, F, e2, h1, h2, fun {x v} m => ?_, fun ds' vs' q => back _ _ (h3 ds' vs' q)⟩
  obtain ⟨u, z, d⟩ := f.at (x := x) (v := some v) (List.mem_cons_of_mem _ (List.mem_append_left _ m))
  cases z
  exact d
end
end Z

namespace Z
open PySem L2

def Wk (K : PySem.W.Frag) (J : It) (ds : List PyData) (T0 : List En) : Prop := ∀ l H, OK K (T0 ++ l) H →
  (∀ i x, ds[i]? = some x → J.go i H ∧ ∀ v H', J.yld i H v H' → OK K ((IT.d x, some v) :: (T0 ++ l)) H') ∧ J.stop ds.length H
def tI (K : PySem.W.Frag) (s : S) (ds : List PyData) (s1 : S) : TI := fun σ H R => ∃ T ρ, Sat K s σ ρ T H ∧ ∀ J T0 ρ' H', ρ <+: ρ' → Sat K s1 σ ρ' (T0 ++ T) H' → Wk K J ds T0 → R J H'
def ZI (X : Cx) (tg it : Expr) (s : S) (ds : List PyData) (s1 : S) : Prop := PI X tg it (tI X.K s ds s1)
section
variable {X : Cx} {tg e a b : Expr} {es : List Expr} {s s' s1 s2 : S} {ds : List PyData} {pos p : Pos} {i j : Int}
theorem PI.imp {t t' : TI} (h : PI X tg e t) (k : ∀ σ H Q, t' σ H Q → t σ H Q) : PI X tg e t' := ⟨fun pins s σ H Q I q => h.run pins s σ H Q I (k σ H Q q)⟩
def rng (lo : Int) (n : Nat) : List PyData := (List.range n).map fun k => .int (lo + (k : Nat))
theorem rng_get {lo : Int} {n k : Nat} {x : PyData} (h : (rng lo n)[k]? = some x) : k < n ∧ x = .int (lo + (k : Nat)) := by
  unfold rng at h
  rw [List.getElem?_map] at h
  cases q : (List.range n)[k]? with
  | none => rw [q] at h; cases h
  | some m =>
    rw [q] at h
    have hk : k < n := by
      have := (List.getElem?_eq_some_iff.mp q).1
      simpa using this
    rw [List.getElem?_range hk] at q
    cases q
    exact ⟨hk, (Option.some.inj h).symm⟩
theorem rng_len {lo : Int} {n : Nat} : (rng lo n).length = n := by unfold rng; simp
theorem wk_rng {K : PySem.W.Frag} {lo : Int} {n : Nat} : Wk K (Itr lo n) (rng lo n) [] := fun l H ok => by
  refine ⟨fun k x hx => ?_, Nat.le_of_eq rng_len.symm⟩
  obtain ⟨h1, h2⟩ := rng_get hx
  subst h2
  refine ⟨h1, fun v H' ⟨e1, e2⟩ => ?_⟩
  subst e1 e2
  exact OK.flat (show flat (.int _) (.int _) from rfl) ok
/-- but for the slots at vs -/
def offv (vs : List Nat) (σ σ' : L2.St) : Prop := σ'.length = σ.length ∧ ∀ k, k ∉ vs → σ'[k]? = σ[k]?
def tG (K : PySem.W.Frag) (vs : List Nat) (x : PyData) (s s' : S) : TG := fun v σ H Q => ∃ T ρ, Sat K s σ ρ ((IT.d x, some v) :: T) H ∧ ∀ σ', offv vs σ σ' → Sat K s' σ' ρ T H → Q σ' H
def ZG (X : Cx) (tg : Expr) (vs : List Nat) (x : PyData) (s s' : S) : Prop := PG X tg (tG X.K vs x s s')
def tGs (K : PySem.W.Frag) (vs : List Nat) (xs : List PyData) (s s' : S) : TGs := fun us σ H Q => ∃ T ρ, xs.length = us.length ∧ Sat K s σ ρ (ds2 xs us ++ T) H ∧ ∀ σ', offv vs σ σ' → Sat K s' σ' ρ T H → Q σ' H
theorem PG.imp {t t' : TG} (h : PG X tg t) (k : ∀ v σ H Q, t' v σ H Q → t v σ H Q) : PG X tg t' := ⟨fun pins s σ H v u Q I r q => h.run pins s σ H v u Q I r (k v σ H Q q)⟩
theorem PGs.imp {tgs : List Expr} {t t' : TGs} (h : PGs X tgs t) (k : ∀ v σ H Q, t' v σ H Q → t v σ H Q) : PGs X tgs t' := ⟨fun pins s σ H v u Q I r q => h.run pins s σ H v u Q I r (k v σ H Q q)⟩
theorem offv_set {vs : List Nat} {σ : L2.St} {k : Nat} {v : Option V} (h : k ∈ vs) : offv vs σ (σ.set k v) := ⟨by simp, fun m hm => by
  rw [List.getElem?_set_ne]
  rintro rfl
  exact hm h⟩
theorem offv.trans {vs : List Nat} {σ σ' σ2 : L2.St} (h : offv vs σ σ') (h2 : offv vs σ' σ2) : offv vs σ σ2 := ⟨h2.1.trans h.1, fun k hk => (h2.2 k hk).trans (h.2 k hk)⟩
variable {rest body : List Stmt} {P : Po} {M : S → Prop}
end
end Z

namespace Z
open PySem L2

def wipeE (e : List SD) : List Nat → List SD
  | [] => e
  | v :: vs => (wipeE e vs).set v .un
theorem wipeE_len (e : List SD) : ∀ vs : List Nat, (wipeE e vs).length = e.length
  | [] => rfl
  | v :: vs => by unfold wipeE; rw [List.length_set, wipeE_len e vs]
theorem wipeE_get {e : List SD} {i : Nat} {a : SD} : ∀ {vs : List Nat}, (wipeE e vs)[i]? = some a → a = .un ∨ (e[i]? = some a ∧ i ∉ vs)
  | [], h => .inr ⟨h, by simp⟩
  | v :: vs, h => by
    unfold wipeE at h
    by_cases hi : i = v
    · subst hi
      by_cases hv : i < (wipeE e vs).length
      · rw [List.getElem?_set_self hv] at h
        exact .inl (Option.some.inj h).symm
      · rw [List.getElem?_eq_none (by simpa using hv)] at h
        cases h
    · rw [List.getElem?_set_ne (Ne.symm hi)] at h
      rcases wipeE_get h with z | ⟨z1, z2⟩
      · exact .inl z
      · exact .inr ⟨z1, by simp only [List.mem_cons, not_or]; exact ⟨hi, z2⟩⟩
theorem wipe_keep {σ : L2.St} {i : Nat} : ∀ {vs : List Nat}, i ∉ vs → (wipe σ vs)[i]? = σ[i]?
  | [], _ => rfl
  | v :: vs, h => by
    simp only [List.mem_cons, not_or] at h
    unfold wipe
    rw [List.getElem?_set_ne (Ne.symm h.1)]
    exact wipe_keep h.2
theorem wipe_at {σ : L2.St} {i : Nat} (hi : i < σ.length) : ∀ {vs : List Nat}, i ∈ vs → (wipe σ vs)[i]? = some none
  | [], h => by simp at h
  | v :: vs, h => by
    unfold wipe
    by_cases e : i = v
    · subst e
      rw [List.getElem?_set_self (by rw [wipe_length]; exact hi)]
    · rw [List.getElem?_set_ne (Ne.symm e)]
      exact wipe_at hi (by simpa [e] using h)
theorem wipe_off {σ σ' : L2.St} {vs : List Nat} (h : offv vs (wipe σ vs) σ') : wipe σ' vs = wipe σ vs := by
  have hl : σ'.length = σ.length := by rw [h.1, wipe_length]
  apply List.ext_getElem?
  intro i
  by_cases hv : i ∈ vs
  · by_cases hi : i < σ.length
    · rw [wipe_at (by omega) hv, wipe_at hi hv]
    · rw [List.getElem?_eq_none (by rw [wipe_length]; omega), List.getElem?_eq_none (by rw [wipe_length]; omega)]
  · rw [wipe_keep hv, h.2 i hv]
section
variable {K : PySem.W.Frag} {H F : Hp} {T l : List En} {σ : L2.St} {ρ : List V} {s : S}
theorem Fz.es : ∀ {e : List SD} {σ : L2.St} {l : List En}, e.length = σ.length → (∀ (i : Nat) (x : PyData) (v : Option V), e[i]? = some (SD.d x) → σ[i]? = some v → ∃ u, v = some u ∧ Dp K F u x) → Fz K F l H → Fz K F (ES e σ ++ l) H
  | [], _, _, _, _, f => f
  | a :: e, [], _, hl, _, _ => by simp at hl
  | a :: e, v :: σ, l, hl, h, f => by
    have ih := Fz.es (e := e) (σ := σ) (l := l) (by simpa using hl) (fun i x w h1 h2 => h (i + 1) x w (by simpa using h1) (by simpa using h2)) f
    show Fz K F ((itOf a, v) :: (ES e σ ++ l)) H
    cases a with
    | d x =>
      obtain ⟨u, e1, hd⟩ := h 0 x v rfl rfl
      subst e1
      exact ih.add hd
    | un => exact ih.un
    | r j => exact ih.un
theorem es_set {e : List SD} {σ : L2.St} (hl : e.length = σ.length) (i : Nat) (a : SD) (v : Option V) : ES (e.set i a) (σ.set i v) = (ES e σ).set i (itOf a, v) := by
  unfold ES
  apply List.ext_getElem?
  intro k
  rw [List.getElem?_zipWith]
  by_cases hk : k = i
  · subst hk
    by_cases hi : k < e.length
    · rw [List.getElem?_set_self hi, List.getElem?_set_self (by omega), List.getElem?_set_self (by rw [List.length_zipWith]; omega)]
    · rw [List.set_eq_of_length_le (by omega), List.set_eq_of_length_le (by omega), List.set_eq_of_length_le (by rw [List.length_zipWith]; omega), List.getElem?_zipWith]
  · rw [List.getElem?_set_ne (Ne.symm hk), List.getElem?_set_ne (Ne.symm hk), List.getElem?_set_ne (Ne.symm hk), List.getElem?_zipWith]
theorem OK.wipe {e : List SD} {σ : L2.St} (hl : e.length = σ.length) (h : OK K (T ++ (ES e σ ++ l)) H) : ∀ vs : List Nat, OK K (T ++ (ES (wipeE e vs) (L2.wipe σ vs) ++ l)) H
  | [] => h
  | v :: vs => by
    have ih := OK.wipe hl h vs
    unfold wipeE L2.wipe
    rw [es_set (by rw [wipeE_len, wipe_length]; exact hl)]
    by_cases hv : v < (ES (wipeE e vs) (L2.wipe σ vs)).length
    · have k := (ih.un (v := none)).set (T.length + v)
      rw [List.set_append_right _ _ (Nat.le_add_right _ _), Nat.add_sub_cancel_left, List.set_append_left _ _ hv] at k
      exact k
    · rw [List.set_eq_of_length_le (by omega)]
      exact ih
theorem cas {α : Type} (a b c : List α) : (a ++ (b ++ c)).Perm (b ++ (a ++ c)) := by
  rw [← List.append_assoc, ← List.append_assoc]
  exact List.Perm.append_right _ List.perm_append_comm
/-- into the block -/
theorem Sat.blk (g : Sat K s σ ρ T H) (vs : List Nat) : Sat K ⟨wipeE s.e vs, s.R⟩ (L2.wipe σ vs) ρ (ES s.e σ ++ T) H := by
  refine ⟨by rw [wipeE_len, wipe_length]; exact g.le, g.lr, fun i j e => ?_, ?_⟩
  · rcases wipeE_get e with z | ⟨z1, z2⟩
    · cases z
    · obtain ⟨v, e1, e2⟩ := g.al i j z1
      exact ⟨v, by rw [wipe_keep z2]; exact e1, e2⟩
  · obtain ⟨F, f⟩ := g.ok.fz
    have f2 : Fz K F (ES s.e σ ++ (T ++ (ES s.e σ ++ RS s.R ρ))) H := Fz.es g.le (fun i x v h1 h2 => f.at (List.mem_append_right _ (List.mem_append_left _ (List.mem_of_getElem? (es_get h1 h2))))) f
    have ok : OK K ((ES s.e σ ++ T) ++ (ES s.e σ ++ RS s.R ρ)) H := by rw [List.append_assoc]; exact f2.ok
    exact OK.wipe g.le ok vs
/-- out of it -/
theorem Sat.unblk {R : List Own} {ρ' : List V} {e' : List SD} {σ' : L2.St} {A : List En} (g : Sat K s σ ρ T H) {H' : Hp} {T' : List En} (p : ρ <+: ρ') (h : Sat K ⟨e', R⟩ σ' ρ' (A ++ (ES s.e σ ++ T')) H') : Sat K ⟨s.e, R⟩ σ ρ' (A ++ T') H' := by
  refine ⟨g.le, h.lr, fun i j e => ?_, ?_⟩
  · obtain ⟨v, e1, e2⟩ := g.al i j e
    exact ⟨v, e1, VR.mono (r := .r j) e2 p⟩
  · have k : OK K ((A ++ (ES s.e σ ++ T')) ++ (ES e' σ' ++ RS R ρ')) H' := h.ok
    have k2 : OK K (ES e' σ' ++ ((A ++ T') ++ (ES s.e σ ++ RS R ρ'))) H' := by
      refine k.perm ?_
      simp only [List.append_assoc]
      have q1 : (ES s.e σ ++ (T' ++ (ES e' σ' ++ RS R ρ'))).Perm (ES e' σ' ++ (T' ++ (ES s.e σ ++ RS R ρ'))) :=
        (cas _ _ _).trans (((cas (ES s.e σ) (ES e' σ') (RS R ρ')).append_left T').trans (cas _ _ _))
      exact (q1.append_left A).trans (cas _ _ _)
    exact k2.right
end
def ZTs (X : Cx) (ifs : List Expr) (s : S) (R : Bool → S → Prop) : Prop := PTs X ifs (tT X.K s R)
section
variable {X : Cx} {tg e a b elt iter : Expr} {es ifs : List Expr} {s s' s1 s2 : S} {ds : List PyData} {pos p : Pos} {i j : Int}
abbrev bl (X : Cx) (scope : Scope) (z : Shared × Hp × Addr × List (Str × Addr) × List Addr) : Cx := X.blk z.1 z.2.1 scope (compEnvC scope z.2.2.2.1 z.2.2.1 X.env) z.2.2.2.2
theorem lc_run {scope : Scope} {own : List (Str × Nat)} {vs : List Nat} (hvs : own.map (·.2) = vs) (Iv : Nat → List PyData → List Own → Prop) (h0 : Iv 0 [] s1.R)
    (turn : ∀ i x acc R, ds[i]? = some x → Iv i acc R → ∃ t' Rt, (∀ z, ZG (bl X scope z) tg vs x ⟨wipeE s1.e vs, R⟩ t') ∧ (∀ z, ZTs (bl X scope z) ifs t' Rt) ∧ (∀ t2, Rt false t2 → Iv (i + 1) acc t2.R) ∧
      ∀ t2, Rt true t2 → ∃ y t3, (∀ z, ZE (bl X scope z) elt t2 (.d y) t3) ∧ Iv (i + 1) (acc ++ [y]) t3.R) (hsz : ds.length < sizeLine)
    (hi : ZI X tg iter s ds s1) (hN : X.N.Nodup) (hc : X.calm = true) (ok : BlkOk X.N X.env.scope scope own) (hs : ∀ x, foldedSetIterable iter X.env x = pure x) :
    ∃ te, (PE X (.ListComp elt [⟨tg, iter, ifs, 0⟩] scope pos) te ∧ ∀ (i : Nat) (y : Str) (py spos : Pos), X.N[i]? = some y → X.env.scope.names.lookup y = some .local → swapsWith (.ListComp elt [⟨tg, iter, ifs, 0⟩] scope pos) (some (.Name y py)) spos.line X.env = pure true → PS X (.Assign [.Name y py] (.ListComp elt [⟨tg, iter, ifs, 0⟩] scope pos) spos) (tAsg te (gName i))) ∧ ∀ T σ ρ H Q, Sat X.K s σ ρ T H →
      (∀ acc R ρ' D H', Iv ds.length acc R → ρ <+: ρ' → Sat X.K ⟨s1.e, R⟩ σ ρ' ((IT.o (OL acc), some (.ref D)) :: T) H' → Q (.ref D) H') → te σ H Q := by
  subst hvs
  have hg : ∀ (sh : Shared) (H : Hp) (C : Addr) (cl : List (Str × Addr)) (fp : List Addr), PG (X.blk sh H scope (compEnvC scope cl C X.env) fp) tg (fun v σ H Q => ∃ x t t', (∀ z, ZG (bl X scope z) tg (own.map (·.2)) x t t') ∧ tG X.K (own.map (·.2)) x t t' v σ H Q) := fun sh H C cl fp =>
    ⟨fun pins sh' σ H' v u Q I r ⟨x, t, t', m, q⟩ => (m (sh, H, C, cl, fp)).run pins sh' σ H' v u Q I r q⟩
  have ht : ∀ (sh : Shared) (H : Hp) (C : Addr) (cl : List (Str × Addr)) (fp : List Addr), PTs (X.blk sh H scope (compEnvC scope cl C X.env) fp) ifs (fun σ H Q => ∃ t R, (∀ z, ZTs (bl X scope z) ifs t R) ∧ tT X.K t R σ H Q) := fun sh H C cl fp =>
    ⟨fun pins sh' σ H' Q I ⟨t, R, m, q⟩ => (m (sh, H, C, cl, fp)).run pins sh' σ H' Q I q⟩
  have he : ∀ (sh : Shared) (H : Hp) (C : Addr) (cl : List (Str × Addr)) (fp : List Addr), PE (X.blk sh H scope (compEnvC scope cl C X.env) fp) elt (fun σ H Q => ∃ t y t', (∀ z, ZE (bl X scope z) elt t (.d y) t') ∧ tE X.K t (.d y) t' σ H Q) := fun sh H C cl fp =>
    ⟨fun pins sh' σ H' Q I ⟨t, y, t', m, q⟩ => (m (sh, H, C, cl, fp)).run pins sh' σ H' Q I q⟩
  refine ⟨_, ⟨pe_lc hc hN hi ok hg ht he hs, fun i y py spos hy hyl hsw => ps_setLc hc hN hy hyl hsw hi ok hg ht he hs⟩, fun T σ ρ H Q g fin => ?_⟩
  refine ⟨T, ρ, g, fun J T0 ρ1 H1 p1 g1 w D hD => ?_⟩
  -- the block's start
  have gb := g1.blk (own.map (·.2))
  have gD : Sat X.K ⟨wipeE s1.e (own.map (·.2)), s1.R⟩ (wipe σ (own.map (·.2))) ρ1 ((IT.o (OL []), some (.ref D)) :: (ES s1.e σ ++ (T0 ++ T))) (upd H1 D (.lst [])) := by
    obtain ⟨F, f⟩ := gb.ok.fz
    exact gb.of (f.lstO (ds := []) (vs := []) .nil hD)
  refine ⟨fun i m H' => m = ds.length - i ∧ i ≤ ds.length ∧ ∃ acc R ρ', Iv i acc R ∧ acc.length ≤ i ∧ ρ1 <+: ρ' ∧ Sat X.K ⟨wipeE s1.e (own.map (·.2)), R⟩ (wipe σ (own.map (·.2))) ρ' ((IT.o (OL acc), some (.ref D)) :: (ES s1.e σ ++ (T0 ++ T))) H', ⟨_, rfl, Nat.zero_le _, [], s1.R, ρ1, h0, Nat.le_refl _, pre_refl _, gD⟩, ?_⟩
  rintro i m H' ⟨rfl, hi', acc, R, ρ', iv, hacc, p', g'⟩
  have okw : OK X.K (T0 ++ ((IT.o (OL acc), some (.ref D)) :: (ES s1.e σ ++ T) ++ (ES (wipeE s1.e (own.map (·.2))) (wipe σ (own.map (·.2))) ++ RS R ρ'))) H' := by
    refine g'.ok.perm ?_
    show ([(IT.o (OL acc), some (V.ref D))] ++ (ES s1.e σ ++ (T0 ++ T)) ++ (ES (wipeE s1.e (own.map (·.2))) (wipe σ (own.map (·.2))) ++ RS R ρ')).Perm (T0 ++ ([(IT.o (OL acc), some (V.ref D))] ++ (ES s1.e σ ++ T) ++ (ES (wipeE s1.e (own.map (·.2))) (wipe σ (own.map (·.2))) ++ RS R ρ')))
    simp only [List.append_assoc]
    exact ((cas (ES s1.e σ) T0 _).append_left _).trans (cas _ _ _)
  obtain ⟨w1, w2⟩ := w _ H' okw
  by_cases hlt : i < ds.length
  · obtain ⟨go, yl⟩ := w1 i ds[i] (List.getElem?_eq_getElem hlt)
    obtain ⟨t', Rt, hG, hT, hF, hE⟩ := turn i ds[i] acc R (List.getElem?_eq_getElem hlt) iv
    refine .inr ⟨go, fun H3 => ∃ acc R ρ', Iv (i + 1) acc R ∧ acc.length ≤ i + 1 ∧ ρ1 <+: ρ' ∧ Sat X.K ⟨wipeE s1.e (own.map (·.2)), R⟩ (wipe σ (own.map (·.2))) ρ' ((IT.o (OL acc), some (.ref D)) :: (ES s1.e σ ++ (T0 ++ T))) H3,
      fun H3 ⟨a1, a2, a3, a4⟩ => ⟨ds.length - (i + 1), by omega, rfl, hlt, a1, a2, a3, a4⟩, fun v H4 y => ?_⟩
    have okv := yl v H4 y
    have g4 : Sat X.K ⟨wipeE s1.e (own.map (·.2)), R⟩ (wipe σ (own.map (·.2))) ρ' ((IT.d ds[i], some v) :: ((IT.o (OL acc), some (.ref D)) :: (ES s1.e σ ++ (T0 ++ T)))) H4 := by
      refine ⟨g'.le, g'.lr, g'.al, okv.perm (List.Perm.cons _ ?_)⟩
      show (T0 ++ ([(IT.o (OL acc), some (V.ref D))] ++ (ES s1.e σ ++ T) ++ (ES (wipeE s1.e (own.map (·.2))) (wipe σ (own.map (·.2))) ++ RS R ρ'))).Perm ([(IT.o (OL acc), some (V.ref D))] ++ (ES s1.e σ ++ (T0 ++ T)) ++ (ES (wipeE s1.e (own.map (·.2))) (wipe σ (own.map (·.2))) ++ RS R ρ'))
      simp only [List.append_assoc]
      exact (cas _ _ _).trans ((cas T0 (ES s1.e σ) _).append_left _)
    -- the same again with a second copy of the frame, for the way back
    refine ⟨ds[i], _, t', hG, _, ρ', ⟨g4.le, g4.lr, g4.al, g4.ok⟩, fun σ2 o g5 => ⟨wipe_off o, ?_⟩⟩
    have back : ∀ {R2 : List Own} {e2 : List SD} {ρ2 : List V} {acc2 : List PyData} {H2 : Hp}, ρ' <+: ρ2 → Sat X.K ⟨e2, R2⟩ σ2 ρ2 ((IT.o (OL acc2), some (.ref D)) :: (ES s1.e σ ++ (T0 ++ T))) H2 →
        Sat X.K ⟨wipeE s1.e (own.map (·.2)), R2⟩ (wipe σ (own.map (·.2))) ρ2 ((IT.o (OL acc2), some (.ref D)) :: (ES s1.e σ ++ (T0 ++ T))) H2 := fun {R2 e2 ρ2 acc2 H2} p2 g2 => by
      have b := g1.unblk (A := [(IT.o (OL acc2), some (.ref D))]) (p'.trans p2) g2
      have b2 := b.blk (own.map (·.2))
      refine b2.tperm ?_
      exact List.perm_middle
    refine ⟨t', Rt, hT, _, ρ', g5, fun b t2 ρ2 H5 hr p2 g6 => ?_⟩
    cases b with
    | false => exact ⟨acc, t2.R, ρ2, hF t2 hr, by omega, p'.trans p2, back p2 g6⟩
    | true =>
      obtain ⟨yd, t3, hy, iv3⟩ := hE t2 hr
      show ∃ _, _
      refine ⟨t2, yd, t3, hy, _, ρ2, g6, fun u ρ3 H6 p3 _ g7 => ?_⟩
      have g8 : OK X.K ((IT.o (OL acc), some (.ref D)) :: ((IT.d yd, some u) :: (ES s1.e σ ++ (T0 ++ T)) ++ (ES t3.e σ2 ++ RS t3.R ρ3))) H6 := g7.ok.perm (List.Perm.swap _ _ _)
      obtain ⟨F, f⟩ := g8.fz
      obtain ⟨pD, vs, e3, h1, h2, h3⟩ := f.putL (ds' := acc)
      cases e3
      obtain ⟨u', e4, hu⟩ := f.at (x := yd) (v := some u) (List.mem_cons_of_mem _ List.mem_cons_self)
      cases e4
      refine ⟨vs, h1, by rw [dpsLen h2]; omega, acc ++ [yd], t3.R, ρ3, iv3, by rw [List.length_append]; exact Nat.succ_le_succ hacc, (p'.trans p2).trans p3, back (e2 := t3.e) (p2.trans p3) ?_⟩
      have k := h3 (acc ++ [yd]) (vs ++ [u]) (dpsApp h2 (.cons hu .nil))
      exact ⟨g7.le, g7.lr, g7.al, ((k.perm (List.Perm.swap _ _ _)).tail)⟩
  · have e : i = ds.length := by omega
    subst e
    refine .inl ⟨w2, fin acc R ρ' D H' iv (p1.trans p') ?_⟩
    have b := g1.unblk (A := [(IT.o (OL acc), some (.ref D))]) p' g'
    have b2 : Sat X.K ⟨s1.e, R⟩ σ ρ' ((IT.o (OL acc), some (.ref D)) :: (T0 ++ T)) H' := b
    have b3 : Sat X.K ⟨s1.e, R⟩ σ ρ' (T0 ++ ((IT.o (OL acc), some (.ref D)) :: T)) H' := b2.tperm List.perm_middle.symm
    exact b3.tdrops
end

def ie (ds : List IT) (vs : List V) : List En := List.zipWith (fun i v => (i, some v)) ds vs
def sl : List IT → Nat → List SD
  | [], _ => []
  | .o _ :: r, n => .r n :: sl r (n + 1)
  | .d x :: r, n => .d x :: sl r n
  | .un :: r, n => .un :: sl r n
def objs : List IT → List Own
  | [] => []
  | .o P :: r => P :: objs r
  | _ :: r => objs r
def vals : List IT → List V → List V
  | .o _ :: r, v :: vs => v :: vals r vs
  | _ :: r, _ :: vs => vals r vs
  | _, _ => []
def back : List IT → List Own → List IT
  | [], _ => []
  | .o _ :: r, P :: Os => .o P :: back r Os
  | .o _ :: r, [] => .un :: back r []
  | _ :: r, Os => .un :: back r Os
/-- a def's promise: what is asked of the arguments; result and objects behind it -/
def spZ (K : PySem.W.Frag) (Pre : List IT → Prop) (Rel : List IT → IT → List Own → Prop) : Sp := fun vs H Q _ => ∃ ds T, Pre ds ∧ ds.length = vs.length ∧ OK K (ie ds vs ++ T) H ∧
  ∀ z Os v H', Rel ds z Os → OK K ((z, some v) :: (ie (back ds Os) vs ++ T)) H' → Q v H'
section
variable {K : PySem.W.Frag} {H : Hp}
theorem vals_len : ∀ {ds : List IT} {vs : List V}, ds.length = vs.length → (vals ds vs).length = (objs ds).length
  | [], [], _ => rfl
  | .o P :: r, v :: vs, h => by simp [vals, objs, vals_len (ds := r) (vs := vs) (by simpa using h)]
  | .d x :: r, v :: vs, h => by simp [vals, objs, vals_len (ds := r) (vs := vs) (by simpa using h)]
  | .un :: r, v :: vs, h => by simp [vals, objs, vals_len (ds := r) (vs := vs) (by simpa using h)]
  | [], _ :: _, h => by simp at h
  | _ :: _, [], h => by simp at h
theorem sl_len : ∀ {ds : List IT} {n : Nat}, (sl ds n).length = ds.length
  | [], _ => rfl
  | .o P :: r, n => by simp [sl, sl_len (ds := r)]
  | .d x :: r, n => by simp [sl, sl_len (ds := r)]
  | .un :: r, n => by simp [sl, sl_len (ds := r)]
theorem enter : ∀ {ds : List IT} {vs : List V} {n : Nat} {T : List En}, ds.length = vs.length → OK K (ie ds vs ++ T) H → OK K (T ++ (ES (sl ds n) (vs.map some) ++ RS (objs ds) (vals ds vs))) H
  | [], [], n, T, _, h => by
    show OK K (T ++ []) H
    rw [List.append_nil]
    exact h
  | .o P :: r, v :: vs, n, T, hl, h => by
    have h1 : OK K (ie r vs ++ ((IT.o P, some v) :: T)) H := OK.perm List.perm_middle.symm h
    have h2 := enter (ds := r) (vs := vs) (n := n + 1) (T := (IT.o P, some v) :: T) (by simpa using hl) h1
    have h3 : OK K ((IT.un, some v) :: ((IT.o P, some v) :: (T ++ (ES (sl r (n + 1)) (vs.map some) ++ RS (objs r) (vals r vs))))) H := OK.un h2
    refine h3.perm ?_
    show ([(IT.un, some v)] ++ ([(IT.o P, some v)] ++ (T ++ (ES (sl r (n + 1)) (vs.map some) ++ RS (objs r) (vals r vs))))).Perm (T ++ ([(IT.un, some v)] ++ ES (sl r (n + 1)) (vs.map some) ++ ([(IT.o P, some v)] ++ RS (objs r) (vals r vs))))
    simp only [List.append_assoc]
    refine ((((cas _ _ _).append_left _).trans (cas _ _ _)).trans (List.Perm.append_left _ ?_))
    exact (cas _ _ _).append_left _
  | .d x :: r, v :: vs, n, T, hl, h => by
    have h1 : OK K (ie r vs ++ ((IT.d x, some v) :: T)) H := OK.perm List.perm_middle.symm h
    have h2 := enter (ds := r) (vs := vs) (n := n) (T := (IT.d x, some v) :: T) (by simpa using hl) h1
    exact OK.perm List.perm_middle.symm h2
  | .un :: r, v :: vs, n, T, hl, h => by
    have h1 : OK K (ie r vs ++ ((IT.un, some v) :: T)) H := OK.perm List.perm_middle.symm h
    have h2 := enter (ds := r) (vs := vs) (n := n) (T := (IT.un, some v) :: T) (by simpa using hl) h1
    exact OK.perm List.perm_middle.symm h2
  | [], _ :: _, _, _, h, _ => by simp at h
  | _ :: _, [], _, _, h, _ => by simp at h
theorem leave : ∀ {ds : List IT} {vs : List V} {R : List Own} {T : List En}, ds.length = vs.length → R.length = (objs ds).length → OK K (T ++ RS R (vals ds vs)) H → OK K (ie (back ds R) vs ++ T) H
  | [], [], R, T, _, hr, h => by
    cases R with
    | nil => rw [show T ++ RS [] (vals [] []) = T from List.append_nil T] at h; exact h
    | cons => simp [objs] at hr
  | .o P :: r, v :: vs, P' :: R, T, hl, hr, h => by
    have h1 : OK K (((IT.o P', some v) :: T) ++ RS R (vals r vs)) H := by
      refine OK.perm ?_ h
      exact List.perm_middle
    have h2 := leave (ds := r) (vs := vs) (R := R) (T := (IT.o P', some v) :: T) (by simpa using hl) (by simpa [objs] using hr) h1
    exact OK.perm List.perm_middle h2
  | .o P :: r, v :: vs, [], T, hl, hr, h => by simp [objs] at hr
  | .d x :: r, v :: vs, R, T, hl, hr, h => by
    have h2 := leave (ds := r) (vs := vs) (R := R) (T := T) (by simpa using hl) (by simpa [objs] using hr) h
    cases R <;> exact h2.un
  | .un :: r, v :: vs, R, T, hl, hr, h => by
    have h2 := leave (ds := r) (vs := vs) (R := R) (T := T) (by simpa using hl) (by simpa [objs] using hr) h
    cases R <;> exact h2.un
  | [], _ :: _, _, _, h, _, _ => by simp at h
  | _ :: _, [], _, _, h, _, _ => by simp at h
theorem sl_ref : ∀ {ds : List IT} {vs : List V} {n i j : Nat}, ds.length = vs.length → (sl ds n)[i]? = some (SD.r j) → n ≤ j ∧ ∃ v, vs[i]? = some v ∧ (vals ds vs)[j - n]? = some v
  | [], [], _, i, _, _, e => by simp [sl] at e
  | .o P :: r, v :: vs, n, 0, j, hl, e => by
    simp [sl] at e
    subst e
    exact ⟨Nat.le_refl _, v, rfl, by simp [vals]⟩
  | .o P :: r, v :: vs, n, i + 1, j, hl, e => by
    obtain ⟨h0, w, h1, h2⟩ := sl_ref (ds := r) (vs := vs) (n := n + 1) (i := i) (j := j) (by simpa using hl) (by simpa [sl] using e)
    refine ⟨by omega, w, by simpa using h1, ?_⟩
    rw [show j - n = (j - (n + 1)) + 1 by omega]
    simpa [vals] using h2
  | .d x :: r, v :: vs, n, 0, j, hl, e => by simp [sl] at e
  | .d x :: r, v :: vs, n, i + 1, j, hl, e => by
    obtain ⟨h0, w, h1, h2⟩ := sl_ref (ds := r) (vs := vs) (n := n) (i := i) (j := j) (by simpa using hl) (by simpa [sl] using e)
    exact ⟨h0, w, by simpa using h1, by simpa [vals] using h2⟩
  | .un :: r, v :: vs, n, 0, j, hl, e => by simp [sl] at e
  | .un :: r, v :: vs, n, i + 1, j, hl, e => by
    obtain ⟨h0, w, h1, h2⟩ := sl_ref (ds := r) (vs := vs) (n := n) (i := i) (j := j) (by simpa using hl) (by simpa [sl] using e)
    exact ⟨h0, w, by simpa using h1, by simpa [vals] using h2⟩
  | [], _ :: _, _, _, _, h, _ => by simp at h
  | _ :: _, [], _, _, _, h, _ => by simp at h
theorem es_un : ∀ (e : List SD) (vs : List V) (n : Nat) {T : List En}, e.length = vs.length → OK K (T ++ ES e (vs.map some)) H → OK K (T ++ ES (e ++ List.replicate n .un) (vs.map some ++ List.replicate n none)) H := fun e vs n T hl h => by
  have q : ES (e ++ List.replicate n .un) (vs.map some ++ List.replicate n none) = ES e (vs.map some) ++ List.replicate n (IT.un, none) := by
    unfold ES
    rw [List.zipWith_append (by rw [List.length_map]; exact hl)]
    congr 1
    exact List.zipWith_replicate' ..
  rw [q]
  induction n with
  | zero => rw [List.replicate_zero, List.append_nil]; exact h
  | succ n ih =>
    have k := OK.un (v := none) (ih (by unfold ES; rw [List.zipWith_append (by rw [List.length_map]; exact hl)]; congr 1; exact List.zipWith_replicate' ..))
    refine k.perm ?_
    rw [List.replicate_succ, ← List.append_assoc, ← List.append_assoc]
    exact List.perm_middle.symm
/-- what a return hands back -/
def retOK (b : Nat) (ds : List IT) (Rel : List IT → IT → List Own → Prop) (r : SD) (t : S) : Prop := match r with
  | .d x => Rel ds (.d x) (t.R.take b)
  | .r j => b ≤ j ∧ ((∃ P, t.R[j]? = some P ∧ Rel ds (.o P) (t.R.take b)) ∨ ∃ es, t.R[j]? = some (OL es) ∧ Rel ds (.d (.list es)) (t.R.take b))
  | .un => False
def inSt (ds : List IT) (n : Nat) : S := ⟨sl ds 0 ++ List.replicate n .un, objs ds⟩
def inPo (ds : List IT) (Rel : List IT → IT → List Own → Prop) : Po := { b := (objs ds).length, nx := fun t => Rel ds (.d .none) (t.R.take (objs ds).length), rt := retOK (objs ds).length ds Rel }
theorem take_set {α : Type} {l : List α} {b j : Nat} {x : α} (h : b ≤ j) : (l.set j x).take b = l.take b := by
  apply List.ext_getElem?
  intro i
  by_cases hi : i < b
  · rw [List.getElem?_take_of_lt hi, List.getElem?_take_of_lt hi, List.getElem?_set_ne (by omega)]
  · rw [List.getElem?_eq_none (by rw [List.length_take]; omega), List.getElem?_eq_none (by rw [List.length_take]; omega)]
theorem run_body {Rel : List IT → IT → List Own → Prop} {ds : List IT} {T : List En} {vs : List V} {Q : VK} {N : List Str} {X : Cx} {body : List Stmt} (hK : X.K = K) (hl : ds.length = vs.length) (ok : OK K (ie ds vs ++ T) H) (q : ∀ z Os v H', Rel ds z Os → OK K ((z, some v) :: (ie (back ds Os) vs ++ T)) H' → Q v H')
    (h : ZSs X body (inSt ds (N.length - vs.length)) (inPo ds Rel)) : ∃ t, PSs X body t ∧ t { nx := fun _ H' => Q .non H', rt := Q } (start N vs) H := by
  refine ⟨_, h, inSt ds (N.length - vs.length), T, vals ds vs, rfl, Nat.le_of_eq (vals_len hl).symm, ?_, ?_⟩
  · refine ⟨?_, (vals_len hl).symm, fun i j e => ?_, ?_⟩
    · show (sl ds 0 ++ List.replicate _ _).length = (vs.map some ++ List.replicate _ none).length
      simp [sl_len, hl]
    · have e' : (sl ds 0 ++ List.replicate (N.length - vs.length) SD.un)[i]? = some (SD.r j) := e
      by_cases hi : i < (sl ds 0).length
      · rw [List.getElem?_append_left hi] at e'
        obtain ⟨_, v, h1, h2⟩ := sl_ref hl e'
        refine ⟨v, ?_, by simpa using h2⟩
        show (vs.map some ++ _)[i]? = _
        rw [List.getElem?_append_left (by rw [List.length_map, ← hl, ← sl_len (n := 0)]; exact hi), List.getElem?_map, h1]
        rfl
      · rw [List.getElem?_append_right (by omega)] at e'
        rw [List.getElem?_replicate] at e'
        split at e' <;> cases e'
    · rw [hK]
      have k := enter (n := 0) hl ok
      have k2 : OK K ((RS (objs ds) (vals ds vs) ++ T) ++ ES (sl ds 0) (vs.map some)) H := by
        refine k.perm ?_
        rw [← List.append_assoc]
        refine (List.perm_append_comm).trans ?_
        rw [← List.append_assoc]
      have k3 := es_un (sl ds 0) vs (N.length - vs.length) (T := RS (objs ds) (vals ds vs) ++ T) (by rw [sl_len]; exact hl) k2
      refine k3.perm ?_
      show (RS (objs ds) (vals ds vs) ++ T ++ ES (sl ds 0 ++ List.replicate (N.length - vs.length) SD.un) (vs.map some ++ List.replicate (N.length - vs.length) none)).Perm (T ++ (ES (sl ds 0 ++ List.replicate (N.length - vs.length) SD.un) (vs.map some ++ List.replicate (N.length - vs.length) none) ++ RS (objs ds) (vals ds vs)))
      rw [List.append_assoc]
      refine (List.perm_append_comm).trans ?_
      rw [List.append_assoc]
  · have lv := vals_len (ds := ds) (vs := vs) hl
    have tk : (vals ds vs).take (inPo ds Rel).b = vals ds vs := List.take_of_length_le (by rw [lv]; exact Nat.le_refl _)
    rw [tk, hK]
    -- out of the end's state: the objects of the arguments
    have out : ∀ {s' : S} {σ' : L2.St} {ρ' : List V} {H' : Hp} {A : List En}, vals ds vs <+: ρ' → Sat K s' σ' ρ' (A ++ T) H' → OK K (A ++ (ie (back ds (s'.R.take (objs ds).length)) vs ++ T)) H' := fun {s' σ' ρ' H' A} p g => by
      obtain ⟨m, rfl⟩ := p
      have lr := g.lr
      rw [List.length_append] at lr
      have q1 : RS s'.R (vals ds vs ++ m) = RS (s'.R.take (objs ds).length) (vals ds vs) ++ RS (s'.R.drop (objs ds).length) m := by
        unfold RS
        rw [← List.zipWith_append (by rw [List.length_take, lv]; omega), List.take_append_drop]
      have k := g.ok
      rw [q1] at k
      have k2 : OK K ((ES s'.e σ' ++ RS (s'.R.drop (objs ds).length) m) ++ ((A ++ T) ++ RS (s'.R.take (objs ds).length) (vals ds vs))) H' := by
        refine k.perm ?_
        simp only [List.append_assoc]
        refine ((cas T _ _).append_left A).trans ?_
        refine (cas A _ _).trans ?_
        refine List.Perm.append_left _ ?_
        refine ((List.Perm.append_left T (List.perm_append_comm)).append_left A).trans ?_
        refine ((cas T _ _).append_left A).trans ?_
        exact cas A _ _
      have k3 := leave hl (by rw [List.length_take]; omega) k2.right
      exact k3.perm (cas _ _ _)
    refine ⟨fun s' σ' ρ' H' a p g => ?_, fun r s' σ' ρ' H' v a p vr g => ?_, fun _ _ _ _ z => z.elim, fun _ _ _ _ z => z.elim⟩
    · exact q _ _ .non H' a (OK.flat (show flat .non .none from trivial) (out (A := []) p g))
    · cases r with
      | un => exact a.elim
      | d x => exact q _ _ v H' a (out (A := [(IT.d x, some v)]) p g)
      | r j =>
        obtain ⟨hb, a⟩ := a
        rcases a with ⟨P, hP, a⟩ | ⟨es, hP, a⟩
        · obtain ⟨w, e2, ok2, _⟩ := g.obj hP
          have ev : w = v := Option.some.inj (e2.symm.trans vr)
          subst ev
          -- the object's own place is given up
          have g3 : Sat K ⟨s'.e, s'.R.set j gone⟩ σ' ρ' ([(IT.o P, some w)] ++ T) H' := by
            refine ZE.frz.back2 (P := P) (T2 := [(IT.o P, some w)] ++ T) g hP e2 ?_
            have k := (OK.perm (List.Perm.swap _ _ _) ok2).tail
            obtain ⟨F2, L, e1, gg⟩ := k
            have c := gg.oCons (v := w) (P := gone) (fp := []) rfl List.nodup_nil (fun a ha => by cases ha) (fun a ha => by cases ha)
            exact ⟨F2, (((IT.o gone, some w), []) :: L), by rw [List.map_cons, e1]; rfl, c⟩
          refine q _ _ w H' a ?_
          have k := out p g3
          rw [show (⟨s'.e, s'.R.set j gone⟩ : S).R = s'.R.set j gone from rfl, take_set hb] at k
          exact k
        · obtain ⟨w, e2, ok2, _⟩ := g.obj hP
          have ev : w = v := Option.some.inj (e2.symm.trans vr)
          subst ev
          obtain ⟨F, f⟩ := ok2.fz
          have g3 : Sat K ⟨s'.e, s'.R.set j gone⟩ σ' ρ' ([(IT.d (.list es), some w)] ++ T) H' := by
            refine ZE.frz.back2 (P := OL es) (T2 := [(IT.d (.list es), some w)] ++ T) g hP e2 ?_
            have k := (OK.perm (List.Perm.swap _ _ _) f.freeze).tail
            obtain ⟨F2, L, e1, gg⟩ := k
            have c := gg.oCons (v := w) (P := gone) (fp := []) rfl List.nodup_nil (fun a ha => by cases ha) (fun a ha => by cases ha)
            exact ⟨F2, (((IT.o gone, some w), []) :: L), by rw [List.map_cons, e1]; rfl, c⟩
          refine q _ _ w H' a ?_
          have k := out p g3
          rw [show (⟨s'.e, s'.R.set j gone⟩ : S).R = s'.R.set j gone from rfl, take_set hb] at k
          exact k
end
end Z

namespace Z
open PySem L2 PyProof.Rows

abbrev Pre := List IT → Prop
abbrev Rel := List IT → IT → List Own → Prop
/-- a def that may be called by its name and raises nothing -/
structure Cal (P : Program) (w : World) (K : PySem.W.Frag) (mg : Str → Option Value) (base : Heap) (k : Nat) (x : Str) (pre : Pre) (rel : Rel) : Prop where
  ex : ∃ (f : Addr) (fd : FuncData) (ps : List Str), FnOk P w K mg base CX0 k f fd ps (spZ K pre rel) ∧ mg x = some (.ref f) ∧ PySem.W.keepIn K (.ref f) = true ∧ Binds K fd ps []
/-- the text of a def, by its name: what the top has left -/
structure Dfn (K : PySem.W.Frag) (mg : Str → Option Value) (x : Str) (st : Stmt) (ps : List Str) : Prop where
  ex : ∃ (f : Addr) (fd : FuncData), Fun K x x st f fd ∧ mg x = some (.ref f) ∧ Binds K fd ps []
section
variable {P : Program} {w : World} {K : PySem.W.Frag} {mg : Str → Option Value} {base : Heap} {x : Str} {st : Stmt} {ps N : List Str} {k : Nat} {pre : Pre} {rel : Rel}
theorem Cal.mono {j : Nat} (c : Cal P w K mg base k x pre rel) (h : k ≤ j) : Cal P w K mg base j x pre rel := let ⟨f, fd, ps, F, r⟩ := c.ex; ⟨f, fd, ps, F.mono h, r⟩
theorem Cal.imp {pre' : Pre} {rel' : Rel} (c : Cal P w K mg base k x pre rel) (h1 : ∀ ds, pre' ds → pre ds) (h2 : ∀ ds z Os, pre' ds → rel ds z Os → rel' ds z Os) : Cal P w K mg base k x pre' rel' :=
  let ⟨f, fd, ps, F, r⟩ := c.ex; ⟨f, fd, ps, F.imp fun vs H Q E ⟨ds, T, a, b, c, d⟩ => ⟨ds, T, h1 _ a, b, c, fun z Os v H' q => d z Os v H' (h2 _ _ _ a q)⟩, r⟩
end
section
variable {X : Cx} {e : Expr} {es : List Expr} {s s1 s2 : S} {rs : List SD} {pos p : Pos} {x : Str} {k j : Nat} {pre : Pre} {rel : Rel} {ds as bs : List PyData} {zd : PyData}
end
end Z

namespace Z
open PySem L2 PyProof.Rows

section
variable {A : Type} (args : A → List IT) (ask : A → Prop) (res : A → IT) (outs : A → List Own)
def preOf : Pre := fun ds => ∃ x, ask x ∧ ds = args x
def relOf : Rel := fun ds z Os => ∀ x, ask x → ds = args x → z = res x ∧ Os = outs x
end
/-- what a return is to be -/
def retS (b : Nat) (z0 : IT) (O0 : List Own) (r : SD) (t : S) : Prop := match r with
  | .d x => z0 = .d x ∧ t.R.take b = O0
  | .r j => b ≤ j ∧ ((∃ P, t.R[j]? = some P ∧ z0 = .o P) ∨ ∃ es, t.R[j]? = some (OL es) ∧ z0 = .d (.list es)) ∧ t.R.take b = O0
  | .un => False
def poS (b : Nat) (z0 : IT) (O0 : List Own) : Po := { b := b, nx := fun t => z0 = .d .none ∧ t.R.take b = O0, rt := retS b z0 O0 }
theorem PSs.wk {X : Cx} {sts : List Stmt} {s : S} {P Q : Po} (h : ZSs X sts s P) (hb : Q.b = P.b) (h1 : ∀ t, P.nx t → Q.nx t) (h2 : ∀ r t, P.rt r t → Q.rt r t) (h3 : ∀ t, P.bk t → Q.bk t) (h4 : ∀ t, P.ct t → Q.ct t) : ZSs X sts s Q :=
  PSs.imp h fun D σ H ⟨t, T, ρ, e1, b, g, q⟩ => ⟨t, T, ρ, e1, by rw [← hb]; exact b, g, by
    rw [hb] at q
    exact ⟨fun s' σ' ρ' H' a => q.nx s' σ' ρ' H' (h1 _ a), fun r s' σ' ρ' H' v a => q.rt r s' σ' ρ' H' v (h2 _ _ a), fun s' σ' ρ' H' a => q.bk s' σ' ρ' H' (h3 _ a), fun s' σ' ρ' H' a => q.ct s' σ' ρ' H' (h4 _ a)⟩⟩
section
variable {P : Program} {w : World} {K : PySem.W.Frag} {mg : Str → Option Value} {base : Heap} {x : Str} {st : Stmt} {ps N : List Str} {k : Nat}
variable {A : Type} {args : A → List IT} {ask : A → Prop} {res : A → IT} {outs : A → List Own}
end
section
variable {X : Cx} {e : Expr} {es : List Expr} {s s1 s2 : S} {rs : List SD} {pos p : Pos} {x : Str} {k j : Nat} {zd : PyData} {O O' : Own}
variable {A : Type} {args : A → List IT} {ask : A → Prop} {res : A → IT} {outs : A → List Own}
end
end Z

namespace Z
open PySem L2 PyProof.Rows

noncomputable instance decPD : DecidableEq PyData := fun a b => Classical.propDecidable (a = b)
mutual
def isAt (h : Heap) : PyData → Value → Prop
  | .int i, v => ∃ t, v = .int i t
  | .str x, v => ∃ t, v = .str x t
  | .tuple ds, v => ∃ a, v = .ref a ∧ ∃ o its n, h.get? a = some o ∧ o.cls = .type "tuple" ∧ o.data = .seq its n ∧ isAts h ds its.toList
  | _, _ => False
def isAts (h : Heap) : List PyData → List Value → Prop
  | [], [] => True
  | d :: ds, v :: vs => isAt h d v ∧ isAts h ds vs
  | _, _ => False
end
mutual
def dep : PyData → Nat
  | .tuple ds => deps ds + 1
  | _ => 0
def deps : List PyData → Nat
  | [] => 0
  | d :: ds => max (dep d) (deps ds)
end
mutual
def hashD (w : World) : PyData → Int
  | .int i => hashInt i
  | .str x => hashStr w x
  | .tuple ds => reduceHash (Builtin.Tuple.tupleHashOf (hashDs w ds))
  | _ => 0
def hashDs (w : World) : List PyData → List Int
  | [] => []
  | d :: ds => hashD w d :: hashDs w ds
end
mutual
def drw : PyData → Nat
  | .tuple ds => drws ds + 1
  | _ => 1
def drws : List PyData → Nat
  | [] => 0
  | d :: ds => drw d + drws ds
end
mutual
theorem isAt_inj {h : Heap} : ∀ {x y : PyData} {v : Value}, isAt h x v → isAt h y v → x = y
  | .int i, y, v, hx, hy => by
    obtain ⟨t, rfl⟩ := hx
    cases y with
    | int j => obtain ⟨t', e⟩ := hy; injection e with e1 _; rw [e1]
    | str => obtain ⟨t', e⟩ := hy; cases e
    | tuple => obtain ⟨a, e, _⟩ := hy; cases e
    | _ => exact hy.elim
  | .str i, y, v, hx, hy => by
    obtain ⟨t, rfl⟩ := hx
    cases y with
    | str j => obtain ⟨t', e⟩ := hy; injection e with e1 _; rw [e1]
    | int => obtain ⟨t', e⟩ := hy; cases e
    | tuple => obtain ⟨a, e, _⟩ := hy; cases e
    | _ => exact hy.elim
  | .tuple ds, y, v, hx, hy => by
    obtain ⟨a, rfl, o, its, n, h1, h2, h3, h4⟩ := hx
    cases y with
    | int j => obtain ⟨t', e⟩ := hy; cases e
    | str => obtain ⟨t', e⟩ := hy; cases e
    | tuple es =>
      obtain ⟨a', e, o', its', n', g1, g2, g3, g4⟩ := hy
      cases e
      rw [h1] at g1
      cases g1
      rw [h3] at g3
      cases g3
      rw [isAts_inj h4 g4]
    | _ => exact hy.elim
  | .none, _, _, hx, _ => hx.elim
  | .bool _, _, _, hx, _ => hx.elim
  | .list _, _, _, hx, _ => hx.elim
  | .dict _, _, _, hx, _ => hx.elim
theorem isAts_inj {h : Heap} : ∀ {x y : List PyData} {v : List Value}, isAts h x v → isAts h y v → x = y
  | [], [], [], _, _ => rfl
  | [], _ :: _, [], _, hy => hy.elim
  | _ :: _, _, [], hx, _ => hx.elim
  | [], _, _ :: _, hx, _ => hx.elim
  | _ :: _, [], _ :: _, _, hy => hy.elim
  | d :: ds, e :: es, v :: vs, hx, hy => by rw [isAt_inj hx.1 hy.1, isAts_inj hx.2 hy.2]
end
mutual
theorem isAt_keep {h h' : Heap} (k : ∀ a o its n, h.get? a = some o → o.data = .seq its n → h'.get? a = some o) : ∀ {x : PyData} {v : Value}, isAt h x v → isAt h' x v
  | .int i, v, hx => hx
  | .str i, v, hx => hx
  | .tuple ds, v, hx => by
    obtain ⟨a, e, o, its, n, h1, h2, h3, h4⟩ := hx
    exact ⟨a, e, o, its, n, k a o its n h1 h3, h2, h3, isAts_keep k h4⟩
  | .none, _, hx => hx.elim
  | .bool _, _, hx => hx.elim
  | .list _, _, hx => hx.elim
  | .dict _, _, hx => hx.elim
theorem isAts_keep {h h' : Heap} (k : ∀ a o its n, h.get? a = some o → o.data = .seq its n → h'.get? a = some o) : ∀ {x : List PyData} {v : List Value}, isAts h x v → isAts h' x v
  | [], [], _ => trivial
  | [], _ :: _, hx => hx.elim
  | _ :: _, [], hx => hx.elim
  | d :: ds, v :: vs, hx => ⟨isAt_keep k hx.1, isAts_keep k hx.2⟩
end
theorem isAts_len {h : Heap} : ∀ {x : List PyData} {v : List Value}, isAts h x v → x.length = v.length
  | [], [], _ => rfl
  | [], _ :: _, hx => hx.elim
  | _ :: _, [], hx => hx.elim
  | d :: ds, v :: vs, hx => by simp [isAts_len hx.2]
section
variable {prog : Program} {w : World}
theorem hash_tup (A : Around) (E : Value → Shared → Prop) (ds : List PyData) (ih : ∀ d ∈ ds, ∀ (s : Shared) (v : Value) (Q : Int → Shared → Prop), isAt s.heap d v → Q (hashD w d) { s with toks := s.toks + drw d } → wpAny (model prog w) A.in1 (pyHash v) Q E s)
    (s : Shared) (v : Value) (Q : Int → Shared → Prop) (hu : A.units < cLine) (hx : isAt s.heap (.tuple ds) v) (h : Q (hashD w (.tuple ds)) { s with toks := s.toks + drw (.tuple ds) }) : wpAny (model prog w) A (pyHash v) Q E s := by
  obtain ⟨a, rfl, o, its, n, ho, hc, hd, hi⟩ := hx
  have hT : s.TypeIs (.ref a) "tuple" := ⟨o, ho, hc⟩
  unfold pyHash pyHashByItsType
  refine wpAny_bind (wpAny_cRoomFor_or (.inr hu) ?_)
  refine wpAny_bind (wpAny_specialOf hT F.slot_tuple_hash.lookup ?_)
  have nn : (some (Value.builtin "tuple.__hash__") == some Value.none) = false := beq_builtin_none ..
  dsimp only
  rw [if_neg (by rw [nn]; exact Bool.false_ne_true)]
  refine wpAny_bind (wpAny_specialOf hT F.slot_tuple_hash.lookup ?_)
  refine wpAny_bind (wpAny_callSpecialIfBoundUnlessNone?_slot hT F.slot_tuple_hash (wpAny_call_entry F.slot_tuple_hash hT F.entry_tuple_hash ?_ (F.args_tuple_hash_1 _)))
  show wpAny _ _ (Builtin.Tuple.tupleItemsOf (.ref a) >>= _) _ _ s
  refine wpAny_bind (wpAny_tupleItemsOf ho hd ?_)
  refine wpAny_bind ?_
  rw [← Array.forIn_toList]
  refine wpAny_forIn_list _ (fun rest (b : Array Int) s' => ∃ xs ys, ds = xs ++ ys ∧ isAts s.heap ys rest ∧ b.toList = hashDs w xs ∧ s' = { s with toks := s.toks + drws xs }) _ ?_ ?_ _ _ ⟨[], ds, rfl, hi, rfl, rfl⟩
  · rintro x rest b s' ⟨xs, ys, e1, e2, e3, rfl⟩
    cases ys with
    | nil => exact e2.elim
    | cons y ys =>
      refine wpAny_bind (ih y (by rw [e1]; simp) _ x _ e2.1 ?_)
      refine wpAny_pure ⟨xs ++ [y], ys, by rw [e1]; simp, e2.2, ?_, ?_⟩
      · rw [Array.toList_push, e3]
        clear e1 e3
        induction xs with
        | nil => rfl
        | cons z zs ihz =>
          show hashD w z :: (hashDs w zs ++ [hashD w y]) = hashD w z :: hashDs w (zs ++ [y])
          rw [ihz]
      · have dl : ∀ l : List PyData, drws (l ++ [y]) = drws l + drw y := fun l => by
          induction l with
          | nil => show drw y + 0 = 0 + drw y; omega
          | cons z zs ihz => show drw z + drws (zs ++ [y]) = drw z + drws zs + drw y; rw [ihz]; omega
        rw [dl, Nat.add_assoc]
  · rintro b s' ⟨xs, ys, e1, e2, e3, rfl⟩
    cases ys with
    | cons y ys => exact e2.elim
    | nil =>
      rw [List.append_nil] at e1
      subst e1
      show wpAny _ _ (retInt (Builtin.Tuple.tupleHashOf b.toList)) _ _ _
      rw [e3]
      refine wpAny_ret_mkInt ?_
      have hh : Q (reduceHash (Builtin.Tuple.tupleHashOf (hashDs w ds))) { s with toks := s.toks + (drws ds + 1) } := h
      unfold reduceHash at hh
      show wpAny _ _ (pyHashByItsType.reduced (Builtin.Tuple.tupleHashOf (hashDs w ds))) Q E _
      unfold pyHashByItsType.reduced
      by_cases hr : (decide (-(2 : Int) ^ 63 ≤ Builtin.Tuple.tupleHashOf (hashDs w ds)) && decide (Builtin.Tuple.tupleHashOf (hashDs w ds) < 2 ^ 63)) = true
      · rw [if_pos hr] at hh ⊢
        exact wpAny_pure (by rw [Nat.add_assoc]; exact hh)
      · rw [if_neg hr] at hh ⊢
        exact wpAny_bind (wpAny_rule (wpAny_pure (by rw [Nat.add_assoc]; exact hh)))
theorem dep_mem : ∀ {ds : List PyData} {d : PyData}, d ∈ ds → dep d ≤ deps ds
  | [], d, h => by simp at h
  | e :: es, d, h => by
    have h1 : deps (e :: es) = max (dep e) (deps es) := rfl
    rcases List.mem_cons.mp h with z | z
    · subst z; omega
    · have := dep_mem z; omega
def HP (prog : Program) (w : World) (E : Value → Shared → Prop) (d : PyData) : Prop := ∀ (A : Around) (s : Shared) (v : Value) (Q : Int → Shared → Prop), A.units + dep d < cLine → isAt s.heap d v → Q (hashD w d) { s with toks := s.toks + drw d } → wpAny (model prog w) A (pyHash v) Q E s
mutual
theorem hash_at (E : Value → Shared → Prop) : ∀ (d : PyData), HP prog w E d
  | .int i => fun A s v Q hu hx h => by
    obtain ⟨t, rfl⟩ := hx
    exact wpAny_pyHash_int h
  | .str i => fun A s v Q hu hx h => by
    obtain ⟨t, rfl⟩ := hx
    exact wpAny_pyHash_str h
  | .tuple ds => fun A s v Q hu hx h => by
    have e : dep (.tuple ds) = deps ds + 1 := rfl
    have l := hash_all E ds
    exact hash_tup A E ds (fun d hd s v Q hx h => l d hd A.in1 s v Q (by have := dep_mem hd; show A.units + 1 + dep d < cLine; omega) hx h) s v Q (by omega) hx h
  | .none => fun _ _ _ _ _ hx _ => hx.elim
  | .bool _ => fun _ _ _ _ _ hx _ => hx.elim
  | .list _ => fun _ _ _ _ _ hx _ => hx.elim
  | .dict _ => fun _ _ _ _ _ hx _ => hx.elim
theorem hash_all (E : Value → Shared → Prop) : ∀ (ds : List PyData), ∀ d ∈ ds, HP prog w E d
  | [] => fun d hd => by simp at hd
  | e :: es => fun d hd => by
    have h1 := hash_at E e
    have h2 := hash_all E es
    rcases List.mem_cons.mp hd with z | z
    · rw [z]; exact h1
    · exact h2 d z
end
theorem eq_tup (A : Around) (E : Value → Shared → Prop) (ds es : List PyData) (ih : ∀ d ∈ ds, ∀ (e : PyData) (s : Shared) (u v : Value) (Q : Bool → Shared → Prop) (E : Value → Shared → Prop), isAt s.heap d u → isAt s.heap e v → Q (decide (d = e)) s → wpAny (model prog w) A.in1 (eqBool u v) Q E s)
    (s : Shared) (u v : Value) (Q : Bool → Shared → Prop) (hu : A.units < cLine) (hx : isAt s.heap (.tuple ds) u) (hy : isAt s.heap (.tuple es) v) (h : Q (decide (PyData.tuple ds = PyData.tuple es)) s) : wpAny (model prog w) A (eqBool u v) Q E s := by
  have hx0 := hx
  have hy0 := hy
  obtain ⟨a, rfl, oa, xs, na, hoa, hca, hda, hia⟩ := hx
  obtain ⟨b, rfl, ob, ys, nb, hob, hcb, hdb, hib⟩ := hy
  have hTa : s.TypeIs (.ref a) "tuple" := ⟨oa, hoa, hca⟩
  have hTb : s.TypeIs (.ref b) "tuple" := ⟨ob, hob, hcb⟩
  unfold eqBool
  refine wpAny_holding ?_
  by_cases hab : (Value.ref a == Value.ref b) = true
  · rw [if_pos hab]
    have e : a = b := by have := eq_of_beq hab; injection this
    subst e
    have e2 := isAt_inj hx0 hy0
    rw [decide_eq_true e2] at h
    exact wpAny_bind (wpAny_rule (wpAny_pure h))
  · rw [if_neg hab]
    refine wpAny_bind (wpAny_richCompare_same_room (op := .Eq) hTa hTb F.slot_tuple_eq (wpAny_call_entry F.slot_tuple_eq hTa F.entry_tuple_eq ?_ (F.args_tuple_eq_2 _ _)) hu)
    show wpAny _ _ (isInstance (.ref b) (.type "tuple") >>= _) _ _ s
    refine wpAny_bind (wpAny_isInstance hTb isSubtype_tuple_tuple ?_)
    simp only [Bool.not_true, Bool.false_eq_true, if_false]
    refine wpAny_bind (wpAny_tupleItemsOf hoa hda ?_)
    refine wpAny_bind (wpAny_tupleItemsOf hob hdb ?_)
    refine wpAny_bind ?_
    refine wpAny_forIn_list _ (fun rest r s' => r.1 = none ∧ s' = s ∧ ∃ ds1 ds2 es2 xs2 ys2, ds = ds1 ++ ds2 ∧ rest = List.zip xs2 ys2 ∧ isAts s.heap ds2 xs2 ∧ isAts s.heap es2 ys2 ∧ (ds = es ↔ ds2 = es2) ∧ (xs2.length == ys2.length) = (xs.size == ys.size)) _ ?_ ?_ _ _
      ⟨rfl, rfl, [], ds, es, xs.toList, ys.toList, rfl, rfl, hia, hib, Iff.rfl, by simp⟩
    · rintro ⟨p, q⟩ rest r s' ⟨hr, rfl, ds1, ds2, es2, xs2, ys2, e0, hz, hx', hy', hiff, hlen⟩
      match ds2, xs2, es2, ys2, hx', hy', hz with
      | d :: ds2, x :: xs2, e :: es2, y :: ys2, hx', hy', hz =>
        simp only [List.zip_cons_cons, List.cons.injEq, Prod.mk.injEq] at hz
        obtain ⟨⟨rfl, rfl⟩, rfl⟩ := hz
        refine wpAny_bind (ih d (by rw [e0]; simp) e _ p q _ _ hx'.1 hy'.1 ?_)
        by_cases hde : d = e
        · subst hde
          rw [decide_eq_true rfl]
          simp only [Bool.not_true, Bool.false_eq_true, if_false]
          exact wpAny_pure ⟨rfl, rfl, ds1 ++ [d], ds2, es2, xs2, ys2, by rw [e0]; simp, rfl, hx'.2, hy'.2, by rw [hiff]; simp, by simpa using hlen⟩
        · rw [decide_eq_false hde]
          simp only [Bool.not_false, if_true]
          have nf : ¬ PyData.tuple ds = PyData.tuple es := fun z => hde (by
            injection z with z
            have := hiff.mp z
            injection this)
          rw [decide_eq_false nf] at h
          exact wpAny_bind (wpAny_pure (wpAny_pure (wpAny_pure ⟨_, rfl, (fun z => nomatch z), wpAny_truthy_bool h⟩)))
      | [], [], _, _, _, _, hz => simp at hz
      | _ :: _, _ :: _, [], [], _, _, hz => simp at hz
      | [], _ :: _, _, _, hx', _, _ => exact hx'.elim
      | _ :: _, [], _, _, hx', _, _ => exact hx'.elim
      | _ :: _, _ :: _, [], _ :: _, _, hy', _ => exact hy'.elim
      | _ :: _, _ :: _, _ :: _, [], _, hy', _ => exact hy'.elim
    · rintro ⟨r1, r2⟩ s' ⟨hr, rfl, ds1, ds2, es2, xs2, ys2, e0, hz, hx', hy', hiff, hlen⟩
      simp only at hr
      subst hr
      refine wpAny_pure ?_
      have fin : (xs.size == ys.size) = decide (PyData.tuple ds = PyData.tuple es) := by
        rw [← hlen]
        have l1 := isAts_len hx'
        have l2 := isAts_len hy'
        have z : xs2 = [] ∨ ys2 = [] := by
          cases xs2 with
          | nil => exact .inl rfl
          | cons x xs2 => cases ys2 with
            | nil => exact .inr rfl
            | cons y ys2 => simp at hz
        by_cases q : ds2 = es2
        · have e1 : PyData.tuple ds = PyData.tuple es := by rw [hiff.mpr q]
          rw [decide_eq_true e1, ← l1, ← l2, q]
          simp
        · have e1 : ¬ PyData.tuple ds = PyData.tuple es := fun w => q (hiff.mp (by injection w))
          rw [decide_eq_false e1, beq_eq_false_iff_ne, ← l1, ← l2]
          intro w
          apply q
          rcases z with z | z
          · subst z
            have a1 : ds2 = [] := List.eq_nil_of_length_eq_zero l1
            subst a1
            exact (List.eq_nil_of_length_eq_zero w.symm).symm
          · subst z
            have a1 : es2 = [] := List.eq_nil_of_length_eq_zero l2
            subst a1
            exact List.eq_nil_of_length_eq_zero w
      show ∃ _, _
      refine ⟨_, rfl, (fun z => nomatch z), ?_⟩
      refine wpAny_truthy_bool ?_
      rw [fin]
      exact h
def EP1 (prog : Program) (w : World) (d : PyData) : Prop := ∀ (A : Around) (s : Shared) (e : PyData) (u v : Value) (Q : Bool → Shared → Prop) (E : Value → Shared → Prop), A.units + dep d < cLine → isAt s.heap d u → isAt s.heap e v → Q (decide (d = e)) s → wpAny (model prog w) A (eqBool u v) Q E s
theorem at_tup {h : Heap} {ds : List PyData} {v : Value} (hx : isAt h (.tuple ds) v) : ∃ a its, v = .ref a ∧ h.IsTuple a its := by
  obtain ⟨a, e, o, its, n, h1, h2, h3, _⟩ := hx
  exact ⟨a, its, e, o, h1, h2, n, h3⟩
mutual
theorem eq_at : ∀ (d : PyData), EP1 prog w d
  | .int i => fun A s e u v Q E hu hx hy h => by
    obtain ⟨t, rfl⟩ := hx
    cases e with
    | int j =>
      obtain ⟨t', rfl⟩ := hy
      refine SeqAt.EqAt.int_int i t j t' prog w E Q ?_
      have e : decide (PyData.int i = PyData.int j) = (i == j) := by rw [Bool.eq_iff_iff]; simp
      rw [← e]
      exact h
    | str x =>
      obtain ⟨t', rfl⟩ := hy
      exact SeqAt.EqAt.int_str i t x t' prog w E Q (by rw [decide_eq_false (fun z => by cases z)] at h; exact h)
    | tuple es =>
      obtain ⟨a, its, rfl, hT⟩ := at_tup hy
      exact SeqAt.EqAt.int_tuple i t hT (by omega) prog w E Q (by rw [decide_eq_false (fun z => by cases z)] at h; exact h)
    | _ => exact hy.elim
  | .str x => fun A s e u v Q E hu hx hy h => by
    obtain ⟨t, rfl⟩ := hx
    cases e with
    | int j =>
      obtain ⟨t', rfl⟩ := hy
      exact SeqAt.EqAt.str_int x t j t' prog w E Q (by rw [decide_eq_false (fun z => by cases z)] at h; exact h)
    | str y =>
      obtain ⟨t', rfl⟩ := hy
      refine SeqAt.EqAt.str_str x t y t' prog w E Q ?_
      have e : decide (PyData.str x = PyData.str y) = (x == y) := by rw [Bool.eq_iff_iff]; simp
      rw [← e]
      exact h
    | tuple es =>
      obtain ⟨a, its, rfl, hT⟩ := at_tup hy
      exact SeqAt.EqAt.str_tuple x t hT (by omega) prog w E Q (by rw [decide_eq_false (fun z => by cases z)] at h; exact h)
    | _ => exact hy.elim
  | .tuple ds => fun A s e u v Q E hu hx hy h => by
    have e1 : dep (.tuple ds) = deps ds + 1 := rfl
    have l := eq_all ds
    cases e with
    | int j =>
      obtain ⟨t', rfl⟩ := hy
      obtain ⟨a, its, rfl, hT⟩ := at_tup hx
      exact SeqAt.EqAt.tuple_int j t' hT (by omega) prog w E Q (by rw [decide_eq_false (fun z => by cases z)] at h; exact h)
    | str y =>
      obtain ⟨t', rfl⟩ := hy
      obtain ⟨a, its, rfl, hT⟩ := at_tup hx
      exact SeqAt.EqAt.tuple_str y t' hT (by omega) prog w E Q (by rw [decide_eq_false (fun z => by cases z)] at h; exact h)
    | tuple es => exact eq_tup A E ds es (fun d hd e s u v Q E hx hy h => l d hd A.in1 s e u v Q E (by have := dep_mem hd; show A.units + 1 + dep d < cLine; omega) hx hy h) s u v Q (by omega) hx hy h
    | _ => exact hy.elim
  | .none => fun _ _ _ _ _ _ _ _ hx _ _ => hx.elim
  | .bool _ => fun _ _ _ _ _ _ _ _ hx _ _ => hx.elim
  | .list _ => fun _ _ _ _ _ _ _ _ hx _ _ => hx.elim
  | .dict _ => fun _ _ _ _ _ _ _ _ hx _ _ => hx.elim
theorem eq_all : ∀ (ds : List PyData), ∀ d ∈ ds, EP1 prog w d
  | [] => fun d hd => by simp at hd
  | e :: es => fun d hd => by
    have h1 := eq_at e
    have h2 := eq_all es
    rcases List.mem_cons.mp hd with z | z
    · rw [z]; exact h1
    · exact h2 d z
end
theorem quiet_tup {A : Around} {E : Value → Shared → Prop} {s : Shared} (n : Nat) (ds : List PyData) (ih : ∀ d ∈ ds, ∀ (v : Value) (Q : Bool → Shared → Prop), isAt s.heap d v → Q true s → wpAny (model prog w) A (eqIsQuiet n v) Q E s)
    (v : Value) (Q : Bool → Shared → Prop) (hx : isAt s.heap (.tuple ds) v) (h : Q true s) : wpAny (model prog w) A (eqIsQuiet (n + 1) v) Q E s := by
  obtain ⟨a, rfl, o, its, m, ho, hc, hd, hi⟩ := hx
  have hT : s.TypeIs (.ref a) "tuple" := ⟨o, ho, hc⟩
  unfold eqIsQuiet
  refine wpAny_bind (wpAny_specialOf hT F.slot_tuple_eq.lookup ?_)
  show wpAny _ _ (isInstance (.ref a) (.type "tuple") >>= _) _ _ s
  refine wpAny_bind (wpAny_isInstance hT isSubtype_tuple_tuple ?_)
  simp only [Bool.not_true, Bool.false_eq_true, if_false]
  refine wpAny_bind (wpAny_seqItems ho hd ?_)
  refine wpAny_bind ?_
  show wpAny _ _ (forIn its _ _) _ _ s
  rw [← Array.forIn_toList]
  refine wpAny_forIn_list _ (fun rest r s' => r.1 = none ∧ s' = s ∧ ∃ d1 d2, ds = d1 ++ d2 ∧ isAts s.heap d2 rest) _ ?_ ?_ _ _ ⟨rfl, rfl, [], ds, rfl, hi⟩
  · rintro v rest r s' ⟨hr, rfl, d1, d2, e1, e2⟩
    cases d2 with
    | nil => exact e2.elim
    | cons d d2 =>
      refine wpAny_bind (ih d (by rw [e1]; simp) v _ e2.1 ?_)
      simp only [Bool.not_true, Bool.false_eq_true, if_false]
      exact wpAny_pure ⟨rfl, rfl, d1 ++ [d], d2, by rw [e1]; simp, e2.2⟩
  · rintro ⟨r1, r2⟩ s' ⟨hr, rfl, _⟩
    simp only at hr
    subst hr
    exact wpAny_pure h
def QP (prog : Program) (w : World) (d : PyData) : Prop := ∀ (A : Around) (E : Value → Shared → Prop) (s : Shared) (n : Nat) (v : Value) (Q : Bool → Shared → Prop), dep d ≤ n → isAt s.heap d v → Q true s → wpAny (model prog w) A (eqIsQuiet n v) Q E s
mutual
theorem quiet_at : ∀ (d : PyData), QP prog w d
  | .int i => fun A E s n v Q hn hx h => by
    obtain ⟨t, rfl⟩ := hx
    rw [eqIsQuiet_byValue n rfl]
    exact wpAny_pure h
  | .str i => fun A E s n v Q hn hx h => by
    obtain ⟨t, rfl⟩ := hx
    rw [eqIsQuiet_byValue n rfl]
    exact wpAny_pure h
  | .tuple ds => fun A E s n v Q hn hx h => by
    have e1 : dep (.tuple ds) = deps ds + 1 := rfl
    have l := quiet_all ds
    cases n with
    | zero => omega
    | succ n => exact quiet_tup n ds (fun d hd v Q hx h => l d hd A E s n v Q (by have := dep_mem hd; omega) hx h) v Q hx h
  | .none => fun _ _ _ _ _ _ _ hx _ => hx.elim
  | .bool _ => fun _ _ _ _ _ _ _ hx _ => hx.elim
  | .list _ => fun _ _ _ _ _ _ _ hx _ => hx.elim
  | .dict _ => fun _ _ _ _ _ _ _ hx _ => hx.elim
theorem quiet_all : ∀ (ds : List PyData), ∀ d ∈ ds, QP prog w d
  | [] => fun d hd => by simp at hd
  | e :: es => fun d hd => by
    have h1 := quiet_at e
    have h2 := quiet_all es
    rcases List.mem_cons.mp hd with z | z
    · rw [z]; exact h1
    · exact h2 d z
end
end
/-- tuples as keys -/
noncomputable def dkind (prog : Program) (w : World) : HeapKind prog w PyData where
  is := fun h d a => dep d ≤ 8 ∧ isAt h d (.ref a)
  hash := hashD w
  draws := drw
  room := fun A => A.units + 10 < cLine
  inj := fun hx hy => isAt_inj hx.2 hy.2
  keeps := fun {h h' k a d o es ep} hx ho hd hs => ⟨hx.1, isAt_keep (fun b ob its n e1 e2 => by
    by_cases hb : b = d
    · subst hb
      rw [ho] at e1
      cases e1
      rw [hd] at e2
      cases e2
    · exact (hs.2 b hb).trans e1) hx.2⟩
  pyHash := fun {A E s k a Q} hu hx h => hash_at E k A s _ Q (by have := hx.1; omega) hx.2 h
  eqBool := fun {A E s x y a b Q} hu hx hy h => eq_at x A s y _ _ Q E (by have := hx.1; omega) hx.2 hy.2 h
  quiet := fun {A E s k a Q} hx h => quiet_at k A E s 8 _ Q hx.1 hx.2 h
end Z

namespace Z
open PySem L2 PyProof.Rows

mutual
def kOK : PyData → Bool
  | .int _ => true
  | .str _ => true
  | .tuple ds => kOKs ds
  | _ => false
def kOKs : List PyData → Bool
  | [] => true
  | d :: ds => kOK d && kOKs ds
end
abbrev DEn := PyData × Addr × Value
def DxO (P : Program) (w : World) (a : Addr) (xs : List DEn) : HO := .ext fun h => xs.length ≤ sizeLine ∧ (a == sysModules) = false ∧
  ∃ o es ep, h.get? a = some o ∧ o.ExactDict ∧ o.data = .dict es ep ∧ es.toList = xs.map (entryOfKey (dkind P w)) ∧ (xs.map (·.1)).Nodup
/-- a key as it stands -/
def KyD (K : PySem.W.Frag) (H : Hp) (a : Addr) (d : PyData) : Prop := Dp K H (.ref a) d ∧ kOK d = true ∧ dep d ≤ 8
section
variable {X : Cx} {pins : List (Addr × Obj)} {σ : L2.St} {H : Hp} {s : Shared}
mutual
theorem dp_at (I : Inv X pins σ H s) : ∀ (d : PyData) (v : V) (u : Value), kOK d = true → Dp X.K H v d → RelV v u → isAt s.heap d u
  | .int i, _, _, _, h, r => by cases h; exact r
  | .str i, _, _, _, h, r => by cases h; exact r
  | .tuple ds, _, _, k, h, r => by
    cases h with
    | tup hs ha =>
      cases r
      obtain ⟨its, rv, ⟨o, ho, hc, n, hd⟩, _⟩ := I.tuple hs
      exact ⟨_, rfl, o, _, n, ho, hc, hd, dps_at I ds _ its k ha rv⟩
  | .none, _, _, k, _, _ => by cases k
  | .bool _, _, _, k, _, _ => by cases k
  | .list _, _, _, k, _, _ => by cases k
  | .dict _, _, _, k, _, _ => by cases k
theorem dps_at (I : Inv X pins σ H s) : ∀ (ds : List PyData) (vs : List V) (us : List Value), kOKs ds = true → DpAll X.K H vs ds → Vals vs us → isAts s.heap ds us
  | [], _, _, _, h, r => by cases h; cases r; trivial
  | d :: ds, _, _, k, h, r => by
    cases h with
    | cons h1 h2 =>
      cases r with
      | cons r1 r2 =>
        have k' : (kOK d && kOKs ds) = true := k
        rw [Bool.and_eq_true] at k'
        exact ⟨dp_at I d _ _ k'.1 h1 r1, dps_at I ds _ _ k'.2 h2 r2⟩
end
theorem dx_of {P : Program} {w : World} {h : Heap} {a : Addr} {xs : List DEn} (ok : HOk P w H h) (e : H a = some (DxO P w a xs)) : xs.length ≤ sizeLine ∧ (a == sysModules) = false ∧ ∃ o es ep, h.get? a = some o ∧ o.ExactDict ∧ o.data = .dict es ep ∧ es.toList = xs.map (entryOfKey (dkind P w)) ∧ (xs.map (·.1)).Nodup := (ok a _ e).1
theorem dx_new {P : Program} {w : World} {h : Heap} {a : Addr} {xs : List DEn} (h1 : xs.length ≤ sizeLine) (h2 : (a == sysModules) = false) (h3 : ∃ o es ep, h.get? a = some o ∧ o.ExactDict ∧ o.data = .dict es ep ∧ es.toList = xs.map (entryOfKey (dkind P w)) ∧ (xs.map (·.1)).Nodup) : ObjOk P w H h a (DxO P w a xs) :=
  ⟨⟨h1, h2, h3⟩, let ⟨o, _, _, e, _⟩ := h3; ⟨o, e⟩, fun g1 g2 ⟨p1, p2, o, es, ep, e, r⟩ k => ⟨p1, p2, o, es, ep, k o e, r⟩⟩
theorem dx_H (I : Inv X pins σ H s) {a : Addr} {xs : List DEn} (e : H a = some (DxO X.prog X.w a xs)) (k : ∀ x ∈ xs, KyD X.K H x.2.1 x.1) : xs.length ≤ sizeLine ∧ (a == sysModules) = false ∧ s.heap.DictOfH (dkind X.prog X.w) a xs := by
  obtain ⟨h1, h2, o, es, ep, h3, h4, h5, h6, h7⟩ := dx_of I.hok e
  exact ⟨h1, h2, o, es, ep, h3, h4, h5, h6, fun x hx => ⟨(k x hx).2.2, dp_at I _ _ _ (k x hx).2.1 (k x hx).1 rfl⟩, h7⟩
theorem nd_sub {α : Type} [DecidableEq α] {l1 : List α} : ∀ (_ : l1.Nodup) {l2 : List α} (_ : ∀ x ∈ l1, x ∈ l2), l1.length ≤ l2.length := by
  induction l1 with
  | nil => intro _ _ _; exact Nat.zero_le _
  | cons a l ih =>
    intro nd l2 h
    rw [List.nodup_cons] at nd
    have h1 := ih nd.2 (l2 := l2.erase a) fun x hx => (List.mem_erase_of_ne (fun (e : x = a) => nd.1 (by rw [← e]; exact hx))).mpr (h x (List.mem_cons_of_mem _ hx))
    have h2 : a ∈ l2 := h a List.mem_cons_self
    have h3 := List.length_erase_of_mem h2
    have h4 := List.length_pos_of_mem h2
    rw [List.length_cons]
    omega
/-- what stands at a key -/
noncomputable def atD (xs : List DEn) (d : PyData) : Option Value := (atKey xs d).map (·.2)
def rInX (X : Cx) (neg : Bool) : R2 := fun x y H Q => ∃ p b xs d, y = .ref p ∧ x = .ref b ∧ H p = some (DxO X.prog X.w p xs) ∧ (∀ e ∈ xs, KyD X.K H e.2.1 e.1) ∧ KyD X.K H b d ∧ Q (.bl (if neg then !(atKey xs d).isSome else (atKey xs d).isSome)) H
theorem op_inX (hu : X.A.units + 20 < cLine) : OpR X (compareOp .In) (rInX X false) := by
  intro pins s σ H x y v u Q I rx ry h
  obtain ⟨p, b, xs, d, rfl, rfl, hp, hk, hb, q⟩ := h
  cases rx
  cases ry
  obtain ⟨h1, h2, h3⟩ := dx_H I hp hk
  exact wpAny_in_heap (knd := dkind X.prog X.w) (k := d) (show X.A.units + 1 + 10 < cLine by omega) ⟨hb.2.2, dp_at I _ _ _ hb.2.1 hb.1 rfl⟩ h2 h3 ⟨.bl _, H, I.tok _, rfl, q⟩
theorem op_ninX (hu : X.A.units + 20 < cLine) : OpR X (compareOp .NotIn) (rInX X true) := by
  intro pins s σ H x y v u Q I rx ry h
  obtain ⟨p, b, xs, d, rfl, rfl, hp, hk, hb, q⟩ := h
  cases rx
  cases ry
  obtain ⟨h1, h2, h3⟩ := dx_H I hp hk
  exact wpAny_notIn_heap (knd := dkind X.prog X.w) (k := d) (show X.A.units + 1 + 10 < cLine by omega) ⟨hb.2.2, dp_at I _ _ _ hb.2.1 hb.1 rfl⟩ h2 h3 ⟨.bl _, H, I.tok _, rfl, q⟩
def rIxX (X : Cx) : R2 := fun x y H Q => ∃ p b xs d c u v, x = .ref p ∧ y = .ref b ∧ H p = some (DxO X.prog X.w p xs) ∧ (∀ e ∈ xs, KyD X.K H e.2.1 e.1) ∧ KyD X.K H b d ∧ atKey xs d = some (c, u) ∧ RelV v u ∧ Q v H
theorem ix_X (hu : X.A.units + 20 < cLine) : IxR X (rIxX X) := by
  intro value slice pins s σ H x y v u Q I rx ry h hs
  obtain ⟨p, b, xs, d, c, u', v', rfl, rfl, hp, hk, hb, ha, rv, q⟩ := h
  cases rx
  cases ry
  obtain ⟨h1, h2, h3⟩ := dx_H I hp hk
  refine tail_any h3.typeIs slot_dict_getitem.lookup ?_ hs
  exact wpAny_getItem_heap (knd := dkind X.prog X.w) (k := d) (show X.A.units + 1 + 10 < cLine by omega) ⟨hb.2.2, dp_at I _ _ _ hb.2.1 hb.1 rfl⟩ h3 ha ⟨v', H, I.tok _, rv, q⟩
def rPutX (X : Cx) : TSet := fun o i v H Q => ∃ p b xs d, o = .ref p ∧ i = .ref b ∧ H p = some (DxO X.prog X.w p xs) ∧ (∀ e ∈ xs, KyD X.K H e.2.1 e.1) ∧ KyD X.K H b d ∧ (∃ U : List PyData, U.length < sizeLine ∧ ∀ e ∈ xs, e.1 ∈ U) ∧ ∀ u, RelV v u → Q (upd H p (DxO X.prog X.w p (storedH xs d b u)))
theorem put_X (hu : X.A.units + 20 < cLine) : PSet X (rPutX X) := by
  intro pins s σ H o i v ov iv u Q I ro ri rv h
  obtain ⟨p, b, xs, d, rfl, rfl, hp, hk, hb, ⟨U, hU, hin⟩, q⟩ := h
  cases ro
  cases ri
  have hl : xs.length < sizeLine := by
    obtain ⟨_, _, _, _, _, _, _, _, _, nd⟩ := dx_of I.hok hp
    have := (nd_sub nd (l2 := U) fun x hx => by obtain ⟨e, he, q⟩ := List.mem_map.mp hx; rw [← q]; exact hin e he)
    rw [List.length_map] at this
    omega
  obtain ⟨h1, h2, h3⟩ := dx_H I hp hk
  refine wpAny_setItem_heap (knd := dkind X.prog X.w) (k := d) (hsz := h1) (show X.A.units + 1 + 10 < cLine by omega) ⟨hb.2.2, dp_at I _ _ _ hb.2.1 hb.1 rfl⟩ h3 fun h' hm hs => ?_
  obtain ⟨o, es, ep, e1, e2, e3, e4, _, e6⟩ := hm
  have ln : (storedH xs d b u).length ≤ sizeLine := by
    unfold storedH
    split
    · simpa using h1
    · simp; omega
  refine ⟨_, d_write (ob := DxO X.prog X.w p (storedH xs d b u)) I (by rw [hp]; exact True.intro) hs ⟨o, e1⟩ (dx_new ln h2 ⟨o, es, ep, e1, e2, e3, e4, e6⟩), q u rv⟩
/-- {} -/
theorem pe_newX {pos : Pos} : PE X (.Dict [] [] pos) (fun _ H Q => ∀ p, H p = none → Q (.ref p) (upd H p (DxO X.prog X.w p []))) := by
  refine ⟨fun pins s σ H Q I h => ?_⟩
  refine wpAny_Dict_empty ⟨.ref s.heap.objs.size, _, I.laid (a := s.heap.objs.size) (o := DxO X.prog X.w s.heap.objs.size []) (t' := s.toks) (fun _ _ q => Heap.get?_push_of_some _ q) (Nat.le_refl _) ?_, rfl, h _ (I.hok.fresh (Nat.le_refl _))⟩
  refine dx_new (Nat.zero_le _) ?_ ⟨_, #[], 0, Heap.get?_push_size _ rfl, ⟨rfl, rfl, rfl⟩, rfl, rfl, List.nodup_nil⟩
  exact beq_eq_false_iff_ne.mpr (Nat.ne_of_gt I.big)
end
end Z

namespace Z
open PySem L2 PyProof.Rows

section
variable {X : Cx} {e a b c : Expr} {es : List Expr} {st : Stmt} {rest body : List Stmt} {s s' s1 s2 s3 : S} {r : SD} {rs : List SD} {pos p : Pos} {R : Bool → S → Prop} {k : Bool} {P : Po} {M : S → Prop} {ds : List PyData} {x y : PyData} {i j : Int}
def OLe (P Q : Own) : Prop := ∀ K F H v fp, P.holds K F H v fp → Q.holds K F H v fp
theorem set_self {α : Type} {l : List α} {j : Nat} {a : α} (h : l[j]? = some a) : l.set j a = l := by
  obtain ⟨hj, e⟩ := List.getElem?_eq_some_iff.mp h
  subst e
  exact List.set_getElem_self hj

/-- a dict of answers: each told answer is right -/
def OM (pr : Program) (w : World) (f : PyData → PyData → Prop) : Own where
  holds := fun K F H v fp => ∃ p xs, v = .ref p ∧ fp = [p] ∧ H p = some (DxO pr w p xs) ∧ ∀ e ∈ xs, KyD K F e.2.1 e.1 ∧ ∃ vv dv, RelV vv e.2.2 ∧ Dp K F vv dv ∧ f e.1 dv
  stay := fun ⟨p, xs, e1, e2, e3, e4⟩ e k => ⟨p, xs, e1, e2, k p (by rw [e2]; simp) _ e3, fun z hz => let ⟨⟨a1, a2, a3⟩, vv, dv, a4, a5, a6⟩ := e4 z hz; ⟨⟨dpUp e _ _ a1, a2, a3⟩, vv, dv, a4, dpUp e _ _ a5, a6⟩⟩
/-- .. that knows the key d -/
def OMk (pr : Program) (w : World) (f : PyData → PyData → Prop) (d : PyData) : Own where
  holds := fun K F H v fp => ∃ p xs, v = .ref p ∧ fp = [p] ∧ H p = some (DxO pr w p xs) ∧ (atKey xs d).isSome = true ∧ ∀ e ∈ xs, KyD K F e.2.1 e.1 ∧ ∃ vv dv, RelV vv e.2.2 ∧ Dp K F vv dv ∧ f e.1 dv
  stay := fun ⟨p, xs, e1, e2, e3, e0, e4⟩ e k => ⟨p, xs, e1, e2, k p (by rw [e2]; simp) _ e3, e0, fun z hz => let ⟨⟨a1, a2, a3⟩, vv, dv, a4, a5, a6⟩ := e4 z hz; ⟨⟨dpUp e _ _ a1, a2, a3⟩, vv, dv, a4, dpUp e _ _ a5, a6⟩⟩
theorem OMk.le {pr : Program} {w : World} {f : PyData → PyData → Prop} {d : PyData} : OLe (OMk pr w f d) (OM pr w f) := fun K F H v fp ⟨p, xs, e1, e2, e3, _, e4⟩ => ⟨p, xs, e1, e2, e3, e4⟩
theorem KyD.up {K : PySem.W.Frag} {F H : Hp} {a : Addr} {d : PyData} (e : Ext F H) (h : KyD K F a d) : KyD K H a d := ⟨dpUp e _ _ h.1, h.2.1, h.2.2⟩
variable {f : PyData → PyData → Prop} {o : Nat}
end
end Z

namespace Z
open PySem PySem.W PySem.SeqAt PyProof.Rows PySem.Calls

section
variable {prog : Program} {w : World} {A : Around} {E : Value → Shared → Prop} {s : Shared}
def SrtK (ds : List PyData) : Prop := Sortable ds ∨ ∀ d ∈ ds, ∃ xs, d = .tuple xs
theorem SrtK.sub {ds ds' : List PyData} (h : SrtK ds) (k : ∀ d ∈ ds', d ∈ ds) : SrtK ds' := by
  rcases h with (z | z) | z
  · exact .inl (.inl fun d hd => z d (k d hd))
  · exact .inl (.inr fun d hd => z d (k d hd))
  · exact .inr fun d hd => z d (k d hd)
theorem EachIs.right {α β : Type} {R : α → β → Prop} : ∀ {as : List α} {bs : List β}, EachIs R as bs → ∀ b ∈ bs, ∃ a ∈ as, R a b
  | _, _, .nil, _, h => by cases h
  | _, _, .cons (a := a) r t, b, h => by
    rcases List.mem_cons.mp h with rfl | h
    · exact ⟨a, List.mem_cons_self, r⟩
    · obtain ⟨a', h1, h2⟩ := EachIs.right t b h
      exact ⟨a', List.mem_cons_of_mem _ h1, h2⟩
end
section
variable {β : Type} {prog : Program} {w : World} {A : Around} {E : Value → Shared → Prop} {s : Shared} {vs : List Value} {bs : List β} {R : Value → β → Prop} {enc : β → PyData}
end
end Z

namespace Z
open PySem L2 PyProof.Rows

def tyN : PyData → String
  | .none => "NoneType"
  | .bool _ => "bool"
  | .int _ => "int"
  | .str _ => "str"
  | .list _ => "list"
  | .tuple _ => "tuple"
  | .dict _ => "dict"
theorem sqL_ty {K : PySem.W.Frag} {H : Hp} {a : Addr} {xs : List V} (h : SqL K H a xs) : TyX K H (.ref a) (.type "list") := by
  rcases h with (h | ⟨o, h⟩) | ⟨o, its, n, hk, hc, _⟩
  · exact .base (.lst h)
  · exact .base (.frz h)
  · exact .kList hk hc
theorem sqT_ty {K : PySem.W.Frag} {H : Hp} {a : Addr} {xs : List V} (h : SqT K H a xs) : TyX K H (.ref a) (.type "tuple") := by
  rcases h with (h | ⟨o, h⟩) | ⟨o, its, n, hk, hc, _⟩
  · exact .base (.tup h)
  · exact .fTuple h
  · exact .kTuple hk hc
theorem dp_ty {K : PySem.W.Frag} {H : Hp} {v : V} {x : PyData} (h : Dp K H v x) : TyX K H v (.type (tyN x)) := by
  cases h with
  | non => exact .base .non
  | bl b => exact .base (.bl b)
  | int i => exact .base (.int i)
  | str y => exact .base (.str y)
  | lst hs ha => exact sqL_ty hs
  | tup hs ha => exact sqT_ty hs
section
variable {X : Cx} {e a b c : Expr} {es : List Expr} {s s' s1 s2 s3 : S} {r r1 r2 : SD} {rs : List SD} {pos p q : Pos} {k : Bool} {x y z : PyData} {ds : List PyData} {T : Str} {n : String}
def isTup : PyData → Bool | .tuple _ => true | _ => false
def isLst : PyData → Bool | .list _ => true | _ => false
def isBl : PyData → Bool | .bool _ => true | _ => false
def isInt : PyData → Bool | .bool _ => true | .int _ => true | _ => false
def isStr : PyData → Bool | .str _ => true | _ => false
theorem kit_tup (x : PyData) : kitB (tyN x) "tuple" = some (isTup x) := by
  have h : kitB "NoneType" "tuple" = some (isTup .none) ∧ kitB "bool" "tuple" = some (isTup (.bool true)) ∧ kitB "int" "tuple" = some (isTup (.int 0)) ∧ kitB "str" "tuple" = some (isTup (.str (Str.ofString ""))) ∧ kitB "list" "tuple" = some (isTup (.list [])) ∧ kitB "tuple" "tuple" = some (isTup (.tuple [])) ∧ kitB "dict" "tuple" = some (isTup (.dict [])) := by decide +kernel
  obtain ⟨h1, h2, h3, h4, h5, h6, h7⟩ := h
  cases x <;> first | exact h1 | exact h2 | exact h3 | exact h4 | exact h5 | exact h6 | exact h7
theorem kit_lst (x : PyData) : kitB (tyN x) "list" = some (isLst x) := by
  have h : kitB "NoneType" "list" = some (isLst .none) ∧ kitB "bool" "list" = some (isLst (.bool true)) ∧ kitB "int" "list" = some (isLst (.int 0)) ∧ kitB "str" "list" = some (isLst (.str (Str.ofString ""))) ∧ kitB "list" "list" = some (isLst (.list [])) ∧ kitB "tuple" "list" = some (isLst (.tuple [])) ∧ kitB "dict" "list" = some (isLst (.dict [])) := by decide +kernel
  obtain ⟨h1, h2, h3, h4, h5, h6, h7⟩ := h
  cases x <;> first | exact h1 | exact h2 | exact h3 | exact h4 | exact h5 | exact h6 | exact h7
theorem kit_bl (x : PyData) : kitB (tyN x) "bool" = some (isBl x) := by
  have h : kitB "NoneType" "bool" = some (isBl .none) ∧ kitB "bool" "bool" = some (isBl (.bool true)) ∧ kitB "int" "bool" = some (isBl (.int 0)) ∧ kitB "str" "bool" = some (isBl (.str (Str.ofString ""))) ∧ kitB "list" "bool" = some (isBl (.list [])) ∧ kitB "tuple" "bool" = some (isBl (.tuple [])) ∧ kitB "dict" "bool" = some (isBl (.dict [])) := by decide +kernel
  obtain ⟨h1, h2, h3, h4, h5, h6, h7⟩ := h
  cases x <;> first | exact h1 | exact h2 | exact h3 | exact h4 | exact h5 | exact h6 | exact h7
theorem kit_int (x : PyData) : kitB (tyN x) "int" = some (isInt x) := by
  have h : kitB "NoneType" "int" = some (isInt .none) ∧ kitB "bool" "int" = some (isInt (.bool true)) ∧ kitB "int" "int" = some (isInt (.int 0)) ∧ kitB "str" "int" = some (isInt (.str (Str.ofString ""))) ∧ kitB "list" "int" = some (isInt (.list [])) ∧ kitB "tuple" "int" = some (isInt (.tuple [])) ∧ kitB "dict" "int" = some (isInt (.dict [])) := by decide +kernel
  obtain ⟨h1, h2, h3, h4, h5, h6, h7⟩ := h
  cases x <;> first | exact h1 | exact h2 | exact h3 | exact h4 | exact h5 | exact h6 | exact h7
theorem kit_str (x : PyData) : kitB (tyN x) "str" = some (isStr x) := by
  have h : kitB "NoneType" "str" = some (isStr .none) ∧ kitB "bool" "str" = some (isStr (.bool true)) ∧ kitB "int" "str" = some (isStr (.int 0)) ∧ kitB "str" "str" = some (isStr (.str (Str.ofString ""))) ∧ kitB "list" "str" = some (isStr (.list [])) ∧ kitB "tuple" "str" = some (isStr (.tuple [])) ∧ kitB "dict" "str" = some (isStr (.dict [])) := by decide +kernel
  obtain ⟨h1, h2, h3, h4, h5, h6, h7⟩ := h
  cases x <;> first | exact h1 | exact h2 | exact h3 | exact h4 | exact h5 | exact h6 | exact h7

def rInZ (K : PySem.W.Frag) (u : Nat) (neg : Bool) : R2 := fun x y H Q => ∃ d c ds, Dp K H x d ∧ Dp K H y c ∧ (c = .list ds ∨ c = .tuple ds) ∧ PyData.plainAll ds = true ∧ d.plain = true ∧ u + 1 + min (PyData.depthAll ds) d.depth < cLine ∧ Q (.bl (if neg then !(ds.any fun z => PyData.eqv z d) else ds.any fun z => PyData.eqv z d)) H
theorem op_inZ : OpR X (compareOp .In) (rInZ X.K X.A.units false) := by
  intro pins s σ H x y v u Q I rx ry h
  obtain ⟨d, c, ds, hd, hc, e, p1, p2, hu, q⟩ := h
  obtain ⟨as, r1⟩ := Dp.reads I d x v hd rx
  obtain ⟨bs, r2⟩ := Dp.reads I c y u hc ry
  rcases e with e | e
  · subst e
    exact SeqAt.in_list_data r2 r1 p1 p2 hu ⟨.bl _, H, I, rfl, q⟩
  · subst e
    exact SeqAt.in_tuple_data r2 r1 p1 p2 hu ⟨.bl _, H, I, rfl, q⟩
theorem op_ninZ : OpR X (compareOp .NotIn) (rInZ X.K X.A.units true) := by
  intro pins s σ H x y v u Q I rx ry h
  obtain ⟨d, c, ds, hd, hc, e, p1, p2, hu, q⟩ := h
  obtain ⟨as, r1⟩ := Dp.reads I d x v hd rx
  obtain ⟨bs, r2⟩ := Dp.reads I c y u hc ry
  rcases e with e | e
  · subst e
    exact SeqAt.notIn_list_data r2 r1 p1 p2 hu ⟨.bl _, H, I, rfl, q⟩
  · subst e
    exact SeqAt.notIn_tuple_data r2 r1 p1 p2 hu ⟨.bl _, H, I, rfl, q⟩
def rEqZ (K : PySem.W.Frag) (u : Nat) (neg : Bool) : R2 := fun x y H Q => ∃ d c, Dp K H x d ∧ Dp K H y c ∧ d.plain = true ∧ c.plain = true ∧ u + min d.depth c.depth < cLine ∧ Q (.bl (if neg then !PyData.eqv d c else PyData.eqv d c)) H
theorem op_eqZ : OpR X (compareOp .Eq) (rEqZ X.K X.A.units false) := by
  intro pins s σ H x y v u Q I rx ry h
  obtain ⟨d, c, hd, hc, p1, p2, hu, q⟩ := h
  obtain ⟨as, r1⟩ := Dp.reads I d x v hd rx
  obtain ⟨bs, r2⟩ := Dp.reads I c y u hc ry
  exact SeqAt.eq_plain r1 r2 p1 p2 hu ⟨.bl _, H, I, rfl, q⟩
theorem op_neZ : OpR X (compareOp .NotEq) (rEqZ X.K X.A.units true) := by
  intro pins s σ H x y v u Q I rx ry h
  obtain ⟨d, c, hd, hc, p1, p2, hu, q⟩ := h
  obtain ⟨as, r1⟩ := Dp.reads I d x v hd rx
  obtain ⟨bs, r2⟩ := Dp.reads I c y u hc ry
  exact SeqAt.ne_plain r1 r2 p1 p2 hu ⟨.bl _, H, I, rfl, q⟩
def srt (ds : List PyData) : List PyData := ds.mergeSort (PySem.W.dataLe false id)
theorem srt_perm (ds : List PyData) : (srt ds).Perm ds := List.mergeSort_perm _ _
end
end Z

namespace Z
open PySem L2 PyProof.Rows

section
variable {X : Cx} {e a b c : Expr} {es : List Expr} {st : Stmt} {rest body : List Stmt} {s s' s1 s2 s3 : S} {r : SD} {rs : List SD} {pos p : Pos} {P : Po} {x y : PyData} {i j : Int} {o n : Nat} {O O' : Own}
structure Bx where
  cells : List Int
  x : Int
  y : Int
end
end Z

namespace Z
open PySem L2 PyProof.Rows
def finB (cells : List Int) (x y : Int) : Int × Bx :=
  let first := (y * 48271 + 17) % 2147483629
  let second := (first * 69621 + 5) % 2147483587
  let z := (second * 40692 + 3) % 2147483563
  (first * 4611686014132420609 + second * 2147483647 + z, ⟨cells, x, z⟩)
def cellB (c : Int) : Int := if decide (0 ≤ c) = true then 2 * c else -2 * c - 1
def loadB (b : Bx) : Int × Bx := match b.cells with
  | c :: r => if decide (1000000000000000000 ≤ cellB c) = true then (cellB c, ⟨r, b.x, b.y⟩) else finB r b.x ((b.y * 69621 + cellB c * 48271 + 11) % 2147483647)
  | [] => finB [] b.x b.y
def drawB (b : Bx) (m : Int) : Int × Bx :=
  let b' : Bx := if b.x < m then ⟨(loadB b).2.cells, (loadB b).1, (loadB b).2.y⟩ else b
  (b'.x % m, ⟨b'.cells, b'.x / m, b'.y⟩)
structure BOK (b : Bx) : Prop where
  x : 0 ≤ b.x
  y : 0 ≤ b.y ∧ b.y < 2 ^ 31
  l : b.cells.length ≤ 63
theorem cell_pos (c : Int) : 0 ≤ cellB c := by unfold cellB; split <;> simp_all <;> omega
theorem fin_ok {cells : List Int} {x y : Int} (hx : 0 ≤ x) (hy : 0 ≤ y) (hl : cells.length ≤ 63) : 0 ≤ (finB cells x y).1 ∧ BOK (finB cells x y).2 := by
  unfold finB
  dsimp only
  generalize h1 : (y * 48271 + 17) % 2147483629 = f
  generalize h2 : (f * 69621 + 5) % 2147483587 = g
  generalize h3 : (g * 40692 + 3) % 2147483563 = z
  have z1 : 0 ≤ z := by omega
  have z2 : z < 2 ^ 31 := by omega
  exact ⟨by omega, hx, ⟨z1, z2⟩, hl⟩
theorem load_ok {b : Bx} (h : BOK b) : 0 ≤ (loadB b).1 ∧ BOK (loadB b).2 := by
  obtain ⟨hx, ⟨y1, y2⟩, hl⟩ := h
  unfold loadB
  cases hc : b.cells with
  | nil => exact fin_ok hx y1 (by simp)
  | cons c r =>
    rw [hc] at hl
    simp at hl
    have hp := cell_pos c
    dsimp only
    split
    · exact ⟨hp, hx, ⟨y1, y2⟩, by show r.length ≤ 63; omega⟩
    · exact fin_ok hx (by omega) (by omega)
theorem draw_ok {b : Bx} {m : Int} (h : BOK b) (hm : 0 < m) : (0 ≤ (drawB b m).1 ∧ (drawB b m).1 < m) ∧ BOK (drawB b m).2 := by
  unfold drawB
  dsimp only
  refine ⟨⟨Int.emod_nonneg _ (by omega), Int.emod_lt_of_pos _ hm⟩, ?_⟩
  split
  · obtain ⟨h1, h2⟩ := load_ok h
    exact ⟨Int.ediv_nonneg h1 (by omega), h2.y, h2.l⟩
  · exact ⟨Int.ediv_nonneg h.x (by omega), h.y, h.l⟩
end Z

namespace Z
open PySem L2 PyProof.Rows
section
variable {X : Cx} {e a b c : Expr} {es : List Expr} {s s1 s2 s3 : S} {r : SD} {rs : List SD} {pos p : Pos} {x : Str} {k j n : Nat} {pre : Pre} {rel : Rel} {ds as bs : List PyData} {zd : PyData} {O : Own}
end
end Z

namespace Z
open PySem L2 PyProof.Rows
section
variable {X : Cx} {tg iter elt : Expr} {ifs : List Expr} {s s1 : S} {ds : List PyData} {pos : Pos}
end

mutual
def same : PyData → PyData → Bool
  | .tuple xs, .tuple ys => xs.length == ys.length && sames xs ys
  | .list xs, .list ys => xs.length == ys.length && sames xs ys
  | .bool a, .bool b => a == b
  | .int a, .int b => a == b
  | .str a, .str b => a == b
  | .none, .none => true
  | _, _ => false
def sames : List PyData → List PyData → Bool
  | x :: xs, y :: ys => same x y && sames xs ys
  | _, _ => true
end
end Z

namespace Z
open PySem L2 PyProof.Rows
section
variable {X : Cx} {e a b c tg iter elt : Expr} {es ifs : List Expr} {st : Stmt} {rest body : List Stmt} {s s' s1 s2 s3 : S} {r r1 r2 r3 : SD} {rs : List SD} {pos p : Pos} {P : Po} {ds : List PyData}
theorem vrs3 {ρ : List V} {us : List V} (h : VRs [r1, r2, r3] ρ us) : ∃ u v w, us = [u, v, w] ∧ VR r1 ρ u ∧ VR r2 ρ v ∧ VR r3 ρ w := by
  obtain ⟨h1, h2⟩ := h
  match us, h1 with
  | [u, v, w], _ => exact ⟨u, v, w, rfl, h2 0 _ u rfl rfl, h2 1 _ v rfl rfl, h2 2 _ w rfl rfl⟩
end
end Z

namespace HT
open PySem PySem.Spec PyProof.Rows
section
variable {prog : Program} {w : World} {A : Around} {E : Value → Shared → Prop} {s : Shared}
theorem places_rev (n : Nat) : Builtin.Slice.slicePlaces ((n : Int) - 1) (-1) (-1) = n := by
  unfold Builtin.Slice.slicePlaces
  rw [if_neg (by decide)]
  by_cases h : (n : Int) - 1 > -1
  · rw [if_pos h]
    have : (((n : Int) - 1) - (-1) - 1) / (- -1) + 1 = n := by
      rw [show (- (-1 : Int)) = 1 from rfl, Int.ediv_one]
      omega
    rw [this]
    simp
  · rw [if_neg h]
    simp
    omega
theorem sliceApplied_rev {sl : Addr} {vl vu vs : Value} {n : Nat} {Q : Int × Int × Nat → Shared → Prop} (hs : s.heap.IsSliceOf sl vl vu vs) (pl : IsPart vl none) (pu : IsPart vu none) (ps : IsPart vs (some (-1)))
    (h : Q ((n : Int) - 1, -1, n) s) : wpAny (model prog w) A (Builtin.Slice.sliceApplied (.ref sl) (pure (n : Int))) Q E s := by
  obtain ⟨os, hos, hcs, hds⟩ := id hs
  unfold Builtin.Slice.sliceApplied Builtin.Slice.sliceFields
  refine wpAny_bind (wpAny_bind (wpAny_field hos hds (x := vl) rfl (wpAny_bind (wpAny_field hos hds (x := vu) rfl (wpAny_bind (wpAny_field hos hds (x := vs) rfl (wpAny_pure ?_)))))))
  refine wpAny_bind (slicePart_ ps ?_)
  show wpAny _ _ (if ((-1 : Int) == 0) = true then _ else _) _ _ s
  rw [if_neg (by decide)]
  refine wpAny_bind (slicePart_ pl (wpAny_bind (slicePart_ pu (wpAny_bind (wpAny_pure ?_)))))
  show wpAny _ _ (pure ((n : Int) - 1, (-1 : Int), Builtin.Slice.slicePlaces ((n : Int) - 1) (-1) (-1))) _ _ s
  rw [places_rev]
  exact wpAny_pure h
theorem fm_congr {α β : Type} {f g : α → Option β} : ∀ {l : List α}, (∀ x ∈ l, f x = g x) → l.filterMap f = l.filterMap g
  | [], _ => rfl
  | x :: l, h => by
    rw [List.filterMap_cons, List.filterMap_cons, h x List.mem_cons_self, fm_congr fun y hy => h y (List.mem_cons_of_mem _ hy)]
theorem pick_rev (xs : Array Value) : ((List.range xs.size).filterMap fun (m : Nat) => xs[(((xs.size : Int) - 1) + (m : Int) * (-1)).toNat]?).toArray = xs.toList.reverse.toArray := by
  congr 1
  have h1 : ∀ (l : List Value), ((List.range l.length).filterMap fun (m : Nat) => l[(((l.length : Int) - 1) + (m : Int) * (-1)).toNat]?) = l.reverse := by
    intro l
    have h2 : ∀ m ∈ List.range l.length, l[(((l.length : Int) - 1) + (m : Int) * (-1)).toNat]? = l.reverse[m]? := fun m hm => by
      have hm : m < l.length := by simpa using hm
      rw [List.getElem?_reverse hm]
      congr 1
      omega
    rw [fm_congr h2]
    have h3 : ∀ (r : List Value), (List.range r.length).filterMap (fun m => r[m]?) = r := by
      intro r
      induction r with
      | nil => rfl
      | cons a r ih =>
        rw [List.length_cons, List.range_succ_eq_map, List.filterMap_cons]
        simp only [List.getElem?_cons_zero, List.filterMap_map]
        congr 1
    have := h3 l.reverse
    rw [List.length_reverse] at this
    exact this
  have := h1 xs.toList
  simpa using this
theorem getItem_tuple_rev {t sl : Addr} {items : Array Value} {vl vu vs : Value} {Q : Value → Shared → Prop} (ht : IsTup s.heap t items) (hs : s.heap.IsSliceOf sl vl vu vs) (pl : IsPart vl none) (pu : IsPart vu none) (ps : IsPart vs (some (-1)))
    (h : Q (.ref s.heap.objs.size) { s with heap := s.heap.push { cls := .type "tuple", data := .seq items.toList.reverse.toArray } })
    (hsz : items.size ≤ sizeLine) : wpAny (model prog w) A (getItem (.ref t) (.ref sl)) Q E s := by
  have htake : sizeOk (.seq items.toList.reverse.toArray) := by
    show items.toList.reverse.toArray.size ≤ sizeLine
    rw [List.size_toArray, List.length_reverse, Array.length_toList]
    exact hsz
  obtain ⟨os, hos, hcs, hds⟩ := id hs
  have hTs : s.TypeIs (.ref sl) "slice" := ⟨os, hos, hcs⟩
  unfold getItem
  try with_reducible refine wpAny_holding ?_
  first | refine wpAny_bind (wpAny_pure ?_) | skip
  refine wpAny_bind (wpAny_sequenceKey ht.typeIs (by decide) ?_)
  refine wpAny_bind (wpAny_callSpecial?_slot (name := Str.ofString "__getitem__") ht.typeIs PyProof.Rows.slot_tuple_getitem
    (wpAny_call_entry PyProof.Rows.slot_tuple_getitem ht.typeIs entry_tuple_getitem ?_ (args_tuple_getitem _ _)))
  show wpAny _ _ (Builtin.Tuple.tupleItemsOf (.ref t) >>= _) _ _ s
  refine wpAny_bind (tupleItemsOf_ ht ?_)
  refine wpAny_bind (wpAny_typeOf hTs ?_)
  rw [if_pos (by decide)]
  refine wpAny_bind (sliceApplied_rev hs pl pu ps ?_)
  have hno : ¬ ((((items.size : Int) - 1) == 0 && (-1 : Int) == 1 && items.size == items.size) = true) := by
    intro q
    rw [Bool.and_eq_true, Bool.and_eq_true] at q
    exact absurd q.1.2 (by decide)
  show wpAny _ _ (if (((items.size : Int) - 1) == 0 && (-1 : Int) == 1 && items.size == items.size) = true then _ else _) _ _ s
  rw [if_neg hno, pick_rev]
  first
    | exact wpAny_bind (m := Builtin.Tuple.tupleExact _) (wpAny_newObj_type (wpAny_pure ⟨_, rfl, wpAny_pure h⟩) htake)
    | exact wpAny_bind (m := Builtin.Tuple.tupleExact _) (wpAny_newObj_type (wpAny_bind (wpAny_pure (wpAny_pure ⟨_, rfl, wpAny_pure h⟩))) htake)
    | exact wpAny_bind (wpAny_bind (m := Builtin.Tuple.tupleExact _) (wpAny_newObj_type (wpAny_pure (wpAny_pure ⟨_, rfl, wpAny_pure h⟩)) htake))
    | exact wpAny_bind (wpAny_bind (m := Builtin.Tuple.tupleExact _) (wpAny_newObj_type (wpAny_pure ⟨_, rfl, wpAny_pure h⟩) htake))
end
end HT
namespace Z
open PySem L2 PyProof.Rows
def tRevT (K : PySem.W.Frag) (te : TE) : TE := fun σ H Q => te σ H fun x H1 => ∃ a xs, x = .ref a ∧ SqT K H1 a xs ∧ ∀ p, H1 p = none → Q (.ref p) (upd H1 p (.tup xs.reverse))
section
variable {X : Cx} {a : Expr} {s s1 : S} {r : SD} {ds : List PyData}
theorem pe_revT {e : Expr} {te : TE} {k : Nat} {p1 p2 p3 pos : Pos} (he : PE X e te) : PE X (.Subscript e (.Slice none none (some (.UnaryOp .USub (.Constant (.int 1) k p1) p2)) p3) pos) (tRevT X.K te) := by
  refine ⟨fun pins s σ H Q I h => ?_⟩
  refine Subscript_ (thn (he.run pins s σ H _ I h) fun v s1 ⟨x, H1, I1, r1, q1⟩ => ?_)
  obtain ⟨a, xs, ex, hx, q⟩ := q1
  subst ex
  cases r1
  have hst : PO X (some (.UnaryOp .USub (.Constant (.int 1) k p1) p2)) (tPart (tUn (rU fun i => .int (-i)) (tC (.int 1)))) := po_some (pe_un un_neg pe_int)
  refine wpAny_Slice (thn (po_none.run pins s1 σ H1 (fun o H2 => o = none ∧ H2 = H1) I1 ⟨rfl, rfl⟩) fun vl s2 ⟨l, H2, I2, pl, el, e2⟩ => ?_)
  subst el e2
  refine thn (po_none.run pins s2 σ H2 (fun o H3 => o = none ∧ H3 = H2) I2 ⟨rfl, rfl⟩) fun vu s3 ⟨u, H3, I3, pu, eu, e3⟩ => ?_
  subst eu e3
  refine thn (hst.run pins s3 σ H3 (fun o H4 => o = some (-1) ∧ H4 = H3) I3 ⟨1, rfl, -1, rfl, rfl, rfl⟩) fun vs s4 ⟨o, H4, I4, ps, eo, e4⟩ => ?_
  subst eo e4
  have I5 : Inv X pins σ H4 { s4 with heap := s4.heap.push { cls := .type "slice", data := .fields #[vl, vu, vs] } } := I4.kept (t' := s4.toks) fun b ob q => Heap.get?_push_of_some _ q
  obtain ⟨its, r, ht, hz⟩ := I5.tuple hx
  have hlen := r.length
  show wpAny (model X.prog X.w) X.A (subscriptTail e (.Slice none none (some (.UnaryOp .USub (.Constant (.int 1) k p1) p2)) p3) (.ref a) (.ref s4.heap.objs.size)) (EP X pins σ Q) X.xe { s4 with heap := s4.heap.push { cls := .type "slice", data := .fields #[vl, vu, vs] } }
  refine tail_any (ops := [.ref a, .ref s4.heap.objs.size]) ht.typeIs (PyProof.Rows.slot_tuple_getitem.lookup) ?_ (by with_unfolding_all rfl)
  refine HT.getItem_tuple_rev ht (Heap.IsSliceOf.new _ vl vu vs) pl pu ps ?_ (by rw [List.size_toArray]; omega)
  refine ⟨.ref _, _, I5.laid (t' := s4.toks) (o := .tup xs.reverse) (fun b ob q => Heap.get?_push_of_some _ q) (Nat.le_refl _) ?_, rfl, q _ (I5.hok.fresh (Nat.le_refl _))⟩
  exact ⟨by rw [List.length_reverse]; exact hz, _, r.reverse, IsTup.new _ _⟩
variable {b : Expr} {s2 : S} {i j : Int} {pos : Pos}
end
end Z

namespace Z
open PySem L2 PyProof.Rows
section
variable {X : Cx} {x1 x2 e : Expr} {s s1 s' : S} {p pos : Pos} {o k j : Nat} {b b' : Bx} {m d : Int} {kk kk' : Bool}
theorem ZE.i {i i' : Int} (h : ZE X e s (.d (.int i)) s') (q : i = i') : ZE X e s (.d (.int i')) s' := by subst q; exact h
theorem ZE.x {i i' : PyData} (h : ZE X e s (.d i) s') (q : i = i') : ZE X e s (.d i') s' := by subst q; exact h
end
end Z

namespace Z
open PySem L2 PyProof.Rows
section
variable {P : Program} {w : World} {K : PySem.W.Frag} {mg : Str → Option Value} {base : Heap} {x : Str} {st : Stmt} {ps N : List Str} {k : Nat}
theorem fn_dfn {f : Addr} {od an : Option Addr} {sl : Array (Option Value)} {oc kV dc pm cd ct : Value} {h : Heap} (X : K.In h) (G : h.Ns PySem.mainGlobals mg)
    (a : PySem.W.nsIn K PySem.mainGlobals x = some (some (.ref f))) (l : K.lookup f = some ⟨oc, od, .func (PySem.W.fnOf x x (defArgs st) (defBody st) (defScope st) .none kV dc pm an cd ct), sl⟩) (c : PySem.W.codeIn K cd x = true) (q : PySem.W.keepIn K (.ref f) = true)
    (b : ∀ (kV doc pm : Value) (an : Option Addr) (cdv ct : Value) (us : List Value), us.length = ps.length → bindArgs (PySem.W.fnOf x x (defArgs st) (defBody st) (defScope st) .none kV doc pm an cdv ct) ⟨us, []⟩ = pure (ps.zip us)) : Dfn K mg x st ps := by
  have F := fun_mk (st := st) l c q
  exact ⟨f, _, F, PySem.W.mg_of X G a, F.binds b⟩
theorem bl_of {F H : Hp} {v : V} {T : List En} {b : Bool} (h : OK K ((IT.d (.bool b), some v) :: T) H) : v = .bl b := by
  obtain ⟨F, f⟩ := h.fz
  obtain ⟨u, e, d⟩ := f.at List.mem_cons_self
  cases e
  cases d
  rfl
def aSc0 : List Int → List IT := fun ns => [.d (.list (ns.map .int))]
theorem dps_of_ints (K : PySem.W.Frag) (F : Hp) : ∀ ns : List Int, DpAll K F (ns.map V.int) (ns.map .int)
  | [] => .nil
  | n :: ns => .cons (.int n) (dps_of_ints K F ns)
/-- the law's head -/
def spL (K : PySem.W.Frag) : Sp := spZ K (preOf aSc0 (fun ns => ns.length ≤ 63)) (relOf aSc0 (fun ns => ns.length ≤ 63) (fun _ => .d (.bool true)) (fun _ => []))
theorem head_ok {H : Hp} {a : Addr} {ns : List Int} (hl : ns.length ≤ 63) (hS : SqL K H a (ns.map V.int)) : spL K [.ref a] H (fun v _ => v = .bl true) fun _ _ _ => False := by
  refine ⟨aSc0 ns, [], ⟨ns, hl, rfl⟩, rfl, ⟨H, [((.d (.list (ns.map .int)), some (.ref a)), [])], rfl, Ext.refl H, fun x hx => ?_, by simp [fpsOf], fun b hb => by simp [fpsOf] at hb⟩, fun z Os v H' hz ok => ?_⟩
  · have e : x = ((.d (.list (ns.map .int)), some (.ref a)), []) := by simpa using hx
    subst e
    exact ⟨rfl, _, rfl, .lst hS (dps_of_ints K H ns)⟩
  · obtain ⟨e, _⟩ := hz ns hl rfl
    subst e
    exact bl_of (F := H) ok
/-- a law by its Cal -/
theorem law_fn {f : Addr} {fd : FuncData} (F : Fun K x x st f fd) (hm : mg x = some (.ref f)) (S : FnScope N ["script"] (defScope st))
    (body : ∀ (f : Addr) (cdv : Value) (Ar : Around) (outer : List Env) (s : Shared) (H : Hp) (E : XK) (ns : List Int), ns.length ≤ 63 → Room k (Ar.deeper (envOfC x (defScope st) s.heap.objs.size f cdv)) →
      ZSs (cxOf CX0 P w K mg base N x (defScope st) f cdv Ar outer s H E).nox (defBody st) (inSt (aSc0 ns) (N.length - 1)) (poS 0 (.d (.bool true)) [])) : FnOk P w K mg base CX0 (k + 1) f fd ["script"] (spL K) := by
  refine F.ok S (fun vs H Q E h => ?_) (fun cdv A outer s H vs Q E hr h => ?_)
  · obtain ⟨ds, T, ⟨ns, _, e⟩, b, _⟩ := h
    subst e
    rw [← b]
    rfl
  · obtain ⟨ds, T, ⟨ns, hn, e⟩, b, c, d⟩ := h
    subst e
    refine run_body (X := (cxOf CX0 P w K mg base N x (defScope st) f cdv A outer s H E).nox) (N := N) rfl b c d ?_
    have e : vs.length = 1 := by rw [← b]; rfl
    rw [e]
    refine PSs.wk (body f cdv A outer s H E ns hn hr) rfl (fun t ⟨h1, h2⟩ => ?_) (fun r t h => ?_) (fun _ z => z) (fun _ z => z)
    · cases h1
    · cases r with
      | un => exact h
      | d v =>
        obtain ⟨h1, h2⟩ := h
        intro z hz e
        exact ⟨h1.symm, h2⟩
      | r j =>
        obtain ⟨hb, h, h2⟩ := h
        rcases h with ⟨O, hO, h1⟩ | ⟨es, hO, h1⟩ <;> cases h1
end
end Z

namespace Z
open PySem L2 PyProof.Rows

section
variable {P : Program} {w : World}
/-- a key of a set, as it stands -/
def KH (h : Heap) (a : Addr) (d : PyData) : Prop := isAt h d (.ref a) ∧ dep d ≤ 8
theorem KH.one {h : Heap} {a : Addr} {d e : PyData} (x : KH h a d) (y : KH h a e) : d = e := isAt_inj x.1 y.1
theorem KH.but {h h' : Heap} {a c : Addr} {d : PyData} {o : Obj} {es : Array (Int × Value)} {ep : Nat} {t : SetTable} (x : KH h a d) (ho : h.get? c = some o) (hd : o.data = .set es ep t) (sb : Heap.SameBut c h h') : KH h' a d :=
  ⟨isAt_keep (fun b u its n e1 e2 => by
    by_cases eb : b = c
    · subst eb
      rw [ho] at e1
      cases e1
      rw [hd] at e2
      cases e2
    · exact (sb.2 b eb).trans e1) x.1, x.2⟩
abbrev SEn := Addr × PyData
def rowsD (w : World) (L : List SEn) : List (Int × Value) := L.map fun p => (hashD w p.2, Value.ref p.1)
def hsD (w : World) (L : List SEn) : List Int := L.map fun p => hashD w p.2
structure SR (w : World) (h : Heap) (a : Addr) (L : List SEn) (es : Array (Int × Value)) (ep : Nat) (t : SetTable) : Prop where
  ob : ∃ o, h.get? a = some o ∧ o.ExactSet ∧ o.data = .set es ep t
  rows : es.toList = rowsD w L
  tab : TabOk t (hsD w L)
  nd : (L.map (·.2)).Nodup
  keys : ∀ p ∈ L, KH h p.1 p.2
  led : w.params.followText "set-order" = true ∨ t.led = true
  room : L.length * 5 < t.mask * 3
  few : L.length < 64
section
variable {A : Around} {E : Value → Shared → Prop} {s : Shared} {a : Addr} {L : List SEn} {es : Array (Int × Value)} {ep : Nat} {t : SetTable}
theorem SR.at (R : SR w s.heap a L es ep t) {i : Nat} {p : SEn} (h : L[i]? = some p) : es[i]? = some (hashD w p.2, Value.ref p.1) := by
  rw [← Array.getElem?_toList, R.rows]
  simp [rowsD, h]
end
end
end Z

namespace Z
open PySem L2 PyProof.Rows

/-- what the first i give -/
def Gt (ks : List SEn) (i : Nat) (L : List SEn) : Prop := (∀ p ∈ L, p ∈ ks.take i) ∧ (∀ p ∈ ks.take i, p.2 ∈ L.map (·.2)) ∧ L.length ≤ i
theorem tk1 {α : Type} {l : List α} {i : Nat} {x : α} (h : l[i]? = some x) : l.take (i + 1) = l.take i ++ [x] := by rw [List.take_add_one, h]; rfl
theorem Gt.there {ks L : List SEn} {i : Nat} {x : SEn} (g : Gt ks i L) (h : ks[i]? = some x) (m : x.2 ∈ L.map (·.2)) : Gt ks (i + 1) L := by
  obtain ⟨g1, g2, g3⟩ := g
  unfold Gt
  rw [tk1 h]
  refine ⟨fun p hp => List.mem_append_left _ (g1 p hp), fun p hp => ?_, by omega⟩
  rcases List.mem_append.mp hp with z | z
  · exact g2 p z
  · have : p = x := by simpa using z
    rw [this]; exact m
theorem Gt.one {ks L L' : List SEn} {i : Nat} {x : SEn} (g : Gt ks i L) (h : ks[i]? = some x) (pm : L'.Perm (x :: L)) : Gt ks (i + 1) L' := by
  obtain ⟨g1, g2, g3⟩ := g
  unfold Gt
  rw [tk1 h]
  refine ⟨fun p hp => ?_, fun p hp => ?_, by rw [pm.length_eq, List.length_cons]; omega⟩
  · rcases List.mem_cons.mp (pm.mem_iff.mp hp) with e | z
    · exact List.mem_append_right _ (by rw [e]; simp)
    · exact List.mem_append_left _ (g1 p z)
  · refine (pm.map (·.2)).mem_iff.mpr ?_
    rw [List.map_cons]
    rcases List.mem_append.mp hp with z | z
    · exact List.mem_cons_of_mem _ (g2 p z)
    · have : p = x := by simpa using z
      rw [this]; exact List.mem_cons_self
def set0 (w : World) : Obj := { cls := .type "set", dict := none, data := .set #[] 0 (.fresh 0 0 (!w.params.followText "set-order")) }
section
variable {P : Program} {w : World} {A : Around} {E : Value → Shared → Prop} {s : Shared}
theorem SR.kept {h h' : Heap} {a : Addr} {L : List SEn} {es : Array (Int × Value)} {ep : Nat} {t : SetTable} (R : SR w h a L es ep t) (ka : ∀ o, h.get? a = some o → h'.get? a = some o) (kk : ∀ p ∈ L, KH h' p.1 p.2) : SR w h' a L es ep t := by
  obtain ⟨o, e, r⟩ := R.ob
  exact ⟨⟨o, ka o e, r⟩, R.rows, R.tab, R.nd, kk, R.led, R.room, R.few⟩
end
end Z

namespace Z
open PySem L2 PyProof.Rows

mutual
theorem tok_inj : ∀ (x y : PyData) (l m : List (Int ⊕ List Nat)), PySem.W.alike x y = true → PySem.W.keyToks x ++ l = PySem.W.keyToks y ++ m → x = y ∧ l = m
  | .none, .none, l, m, _, h => ⟨rfl, by simpa [PySem.W.keyToks] using h⟩
  | .bool a, .bool b, l, m, _, h => by
    cases a <;> cases b <;> simp [PySem.W.keyToks] at h ⊢ <;> exact h
  | .int a, .int b, l, m, _, h => by
    simp [PySem.W.keyToks] at h
    exact ⟨by rw [h.1], h.2⟩
  | .str a, .str b, l, m, _, h => by
    simp only [PySem.W.keyToks, List.singleton_append, List.cons.injEq, Sum.inr.injEq] at h
    exact ⟨by rw [PySem.W.str_of_cps h.1], h.2⟩
  | .list xs, .list ys, l, m, al, h => by
    have := toks_inj xs ys l m (by simpa [PySem.W.alike] using al) (by simpa [PySem.W.keyToks] using h)
    exact ⟨by rw [this.1], this.2⟩
  | .tuple xs, .tuple ys, l, m, al, h => by
    have := toks_inj xs ys l m (by simpa [PySem.W.alike] using al) (by simpa [PySem.W.keyToks] using h)
    exact ⟨by rw [this.1], this.2⟩
  | .none, .bool _, _, _, al, _ | .none, .int _, _, _, al, _ | .none, .str _, _, _, al, _ | .none, .list _, _, _, al, _ | .none, .tuple _, _, _, al, _ | .none, .dict _, _, _, al, _
  | .bool _, .none, _, _, al, _ | .bool _, .int _, _, _, al, _ | .bool _, .str _, _, _, al, _ | .bool _, .list _, _, _, al, _ | .bool _, .tuple _, _, _, al, _ | .bool _, .dict _, _, _, al, _
  | .int _, .none, _, _, al, _ | .int _, .bool _, _, _, al, _ | .int _, .str _, _, _, al, _ | .int _, .list _, _, _, al, _ | .int _, .tuple _, _, _, al, _ | .int _, .dict _, _, _, al, _
  | .str _, .none, _, _, al, _ | .str _, .bool _, _, _, al, _ | .str _, .int _, _, _, al, _ | .str _, .list _, _, _, al, _ | .str _, .tuple _, _, _, al, _ | .str _, .dict _, _, _, al, _
  | .list _, .none, _, _, al, _ | .list _, .bool _, _, _, al, _ | .list _, .int _, _, _, al, _ | .list _, .str _, _, _, al, _ | .list _, .tuple _, _, _, al, _ | .list _, .dict _, _, _, al, _
  | .tuple _, .none, _, _, al, _ | .tuple _, .bool _, _, _, al, _ | .tuple _, .int _, _, _, al, _ | .tuple _, .str _, _, _, al, _ | .tuple _, .list _, _, _, al, _ | .tuple _, .dict _, _, _, al, _
  | .dict _, .none, _, _, al, _ | .dict _, .bool _, _, _, al, _ | .dict _, .int _, _, _, al, _ | .dict _, .str _, _, _, al, _ | .dict _, .list _, _, _, al, _ | .dict _, .tuple _, _, _, al, _ | .dict _, .dict _, _, _, al, _ => by simp [PySem.W.alike] at al
theorem toks_inj : ∀ (xs ys : List PyData) (l m : List (Int ⊕ List Nat)), PySem.W.alikeAll xs ys = true → PySem.W.keyToksAll xs ++ l = PySem.W.keyToksAll ys ++ m → xs = ys ∧ l = m
  | [], [], l, m, _, h => ⟨rfl, by simpa [PySem.W.keyToksAll] using h⟩
  | [], _ :: _, l, m, _, h => by simp [PySem.W.keyToksAll] at h
  | _ :: _, [], l, m, _, h => by simp [PySem.W.keyToksAll] at h
  | x :: xs, y :: ys, l, m, al, h => by
    obtain ⟨a1, a2⟩ := PySem.W.alike_all_cons al
    simp only [PySem.W.keyToksAll, List.cons_append, List.cons.injEq, true_and, List.append_assoc] at h
    obtain ⟨e1, e2⟩ := tok_inj x y _ _ a1 h
    obtain ⟨e3, e4⟩ := toks_inj xs ys l m a2 e2
    exact ⟨by rw [e1, e3], e4⟩
end
theorem lt_total {x y : PyData} (al : PySem.W.alike x y = true) (h1 : PySem.W.dataLt x y = false) (h2 : PySem.W.dataLt y x = false) : x = y :=
  (tok_inj x y [] [] al (by rw [List.append_nil, List.append_nil]; exact PyProof.Rows.lex_total _ _ h1 h2)).1
theorem le_iff {x y : PyData} : PySem.W.dataLe false id x y = true ↔ PySem.W.dataLt y x = false := by
  show (!PySem.W.dataLt y x) = true ↔ _
  cases PySem.W.dataLt y x <;> simp
theorem srt_pw (l : List PyData) : (srt l).Pairwise fun a b => PySem.W.dataLe false id a b = true := by
  refine List.pairwise_mergeSort (fun a b c h1 h2 => ?_) (fun a b => ?_) l
  · rw [le_iff] at *
    cases q : PySem.W.dataLt c a with
    | false => rfl
    | true =>
      rcases PyProof.Rows.lex_negTrans _ (PySem.W.keyToks b) _ q with z | z
      · exact absurd (show PySem.W.dataLt c b = true from z) (by rw [h2]; decide)
      · exact absurd (show PySem.W.dataLt b a = true from z) (by rw [h1]; decide)
  · rw [Bool.or_eq_true, le_iff, le_iff]
    cases q : PySem.W.dataLt b a with
    | false => exact .inl rfl
    | true =>
      right
      cases q2 : PySem.W.dataLt a b with
      | false => rfl
      | true =>
        have := PyProof.Rows.lex_trans _ _ _ q q2
        rw [PyProof.Rows.lex_irrefl] at this
        cases this
theorem srt_eq {l m : List PyData} (al : PySem.W.AllAlike l) (h : l.Perm m) : srt l = srt m := by
  refine List.Perm.eq_of_pairwise (le := fun a b => PySem.W.dataLe false id a b = true) (fun a b ha hb h1 h2 => ?_) (srt_pw l) (srt_pw m) ((srt_perm l).trans (h.trans (srt_perm m).symm))
  have ha' : a ∈ l := (srt_perm l).mem_iff.mp ha
  have hb' : b ∈ l := h.mem_iff.mpr ((srt_perm m).mem_iff.mp hb)
  exact lt_total (al a ha' b hb') (le_iff.mp h2) (le_iff.mp h1)
/-- each once -/
noncomputable def dd : List PyData → List PyData
  | [] => []
  | d :: ds => if d ∈ ds then dd ds else d :: dd ds
theorem dd_mem {x : PyData} : ∀ {l : List PyData}, x ∈ dd l ↔ x ∈ l
  | [] => Iff.rfl
  | d :: ds => by
    unfold dd
    by_cases h : d ∈ ds
    · rw [if_pos h, dd_mem, List.mem_cons]
      exact ⟨.inr, fun z => z.elim (fun e => e ▸ h) id⟩
    · rw [if_neg h, List.mem_cons, List.mem_cons, dd_mem]
end Z

namespace Z
open PySem L2 PyProof.Rows

section
variable {X : Cx} {pins : List (Addr × Obj)} {σ : L2.St} {H : Hp} {s : Shared}
end
end Z

namespace Z
open PySem L2 PyProof.Rows

structure Tp where
  cells : List Int
  n : Int
  x : Int
  y : Int
section
variable {X : Cx} {e a b c : Expr} {es : List Expr} {st : Stmt} {rest body : List Stmt} {s s' s1 s2 s3 : S} {r : SD} {rs : List SD} {pos p : Pos} {P : Po} {x y : PyData} {i j : Int} {o n : Nat} {O O' : Own}
end
section
variable {X : Cx} {x1 x2 e : Expr} {s s1 s' : S} {p pos : Pos} {o k j : Nat} {b b' : Tp} {m d : Int}
end
end Z

namespace Z
open PySem L2 PyProof.Rows

section
open AutoSeq1 MeetsSeq MeetsSeq2
end
section
variable {X : Cx} {e a b c : Expr} {es : List Expr} {st : Stmt} {rest body : List Stmt} {s s' s1 s2 s3 : S} {r r1 : SD} {rs : List SD} {pos p p2 q : Pos} {P : Po} {x y : PyData} {i j k : Int} {o n : Nat} {ds es' : List PyData}
end
end Z

namespace Z
open PySem L2 PyProof.Rows
section
variable {X : Cx} {tg iter elt tg1 iter1 : Expr} {ifs ifs1 : List Expr} {s s1 : S} {ds : List PyData} {pos : Pos}
/-- two fors, turns that leave the objects -/
theorem lc2_run {scope : Scope} {own : List (Str × Nat)} {vs vs1 : List Nat} (hvs : own.map (·.2) = vs) (hsub : ∀ i ∈ vs1, i ∈ vs) (es : PyData → List PyData) (f : PyData → PyData → PyData) (p : PyData → Bool) (q : PyData → PyData → Bool)
    (turn : ∀ x, x ∈ ds → ∃ t', (∀ z, ZG (bl X scope z) tg vs x ⟨wipeE s1.e vs, s1.R⟩ t') ∧ t'.R = s1.R ∧ (∀ z, ZTs (bl X scope z) ifs t' (Is (p x) t')) ∧ (p x = true → (∀ z, ZI (bl X scope z) tg1 iter1 t' (es x) t') ∧
      ∀ y, y ∈ es x → ∃ t2, (∀ z, ZG (bl X scope z) tg1 vs1 y ⟨wipeE t'.e vs1, s1.R⟩ t2) ∧ t2.R = s1.R ∧ (∀ z, ZTs (bl X scope z) ifs1 t2 (Is (q x y) t2)) ∧ (q x y = true → ∀ z, ZE (bl X scope z) elt t2 (.d (f x y)) t2)))
    (hsz : (ds.flatMap es).length < sizeLine) (hi : ZI X tg iter s ds s1) (hN : X.N.Nodup) (hc : X.calm = true) (ok : BlkOk X.N X.env.scope scope own) (hs : ∀ x, foldedSetIterable iter X.env x = pure x) (hs1 : ∀ env x, foldedSetIterable iter1 env x = pure x) :
    ∃ te, (PE X (.ListComp elt [⟨tg, iter, ifs, 0⟩, ⟨tg1, iter1, ifs1, 0⟩] scope pos) te ∧ ∀ (i : Nat) (y : Str) (py spos : Pos), X.N[i]? = some y → X.env.scope.names.lookup y = some .local → swapsWith (.ListComp elt [⟨tg, iter, ifs, 0⟩, ⟨tg1, iter1, ifs1, 0⟩] scope pos) (some (.Name y py)) spos.line X.env = pure true →
        PS X (.Assign [.Name y py] (.ListComp elt [⟨tg, iter, ifs, 0⟩, ⟨tg1, iter1, ifs1, 0⟩] scope pos) spos) (tAsg te (gName i))) ∧ ∀ T σ ρ H Q, Sat X.K s σ ρ T H →
      (∀ ρ' D H', ρ <+: ρ' → Sat X.K s1 σ ρ' ((IT.o (OL ((ds.filter p).flatMap fun x => ((es x).filter (q x)).map (f x))), some (.ref D)) :: T) H' → Q (.ref D) H') → te σ H Q := by
  subst hvs
  have hg : ∀ (sh : Shared) (H : Hp) (C : Addr) (cl : List (Str × Addr)) (fp : List Addr), PG (X.blk sh H scope (compEnvC scope cl C X.env) fp) tg (fun v σ H Q => ∃ x t t', (∀ z, ZG (bl X scope z) tg (own.map (·.2)) x t t') ∧ tG X.K (own.map (·.2)) x t t' v σ H Q) := fun sh H C cl fp =>
    ⟨fun pins sh' σ H' v u Q I r ⟨x, t, t', m, q⟩ => (m (sh, H, C, cl, fp)).run pins sh' σ H' v u Q I r q⟩
  have ht : ∀ (sh : Shared) (H : Hp) (C : Addr) (cl : List (Str × Addr)) (fp : List Addr), PTs (X.blk sh H scope (compEnvC scope cl C X.env) fp) ifs (fun σ H Q => ∃ t R, (∀ z, ZTs (bl X scope z) ifs t R) ∧ tT X.K t R σ H Q) := fun sh H C cl fp =>
    ⟨fun pins sh' σ H' Q I ⟨t, R, m, q⟩ => (m (sh, H, C, cl, fp)).run pins sh' σ H' Q I q⟩
  have hi1 : ∀ (sh : Shared) (H : Hp) (C : Addr) (cl : List (Str × Addr)) (fp : List Addr), PI (X.blk sh H scope (compEnvC scope cl C X.env) fp) tg1 iter1 (fun σ H R => ∃ t ys t', (∀ z, ZI (bl X scope z) tg1 iter1 t ys t') ∧ tI X.K t ys t' σ H R) := fun sh H C cl fp =>
    ⟨fun pins sh' σ H' R I ⟨t, ys, t', m, q⟩ => (m (sh, H, C, cl, fp)).run pins sh' σ H' R I q⟩
  have hg1 : ∀ (sh : Shared) (H : Hp) (C : Addr) (cl : List (Str × Addr)) (fp : List Addr), PG (X.blk sh H scope (compEnvC scope cl C X.env) fp) tg1 (fun v σ H Q => ∃ x t t', (∀ z, ZG (bl X scope z) tg1 vs1 x t t') ∧ tG X.K vs1 x t t' v σ H Q) := fun sh H C cl fp =>
    ⟨fun pins sh' σ H' v u Q I r ⟨x, t, t', m, q⟩ => (m (sh, H, C, cl, fp)).run pins sh' σ H' v u Q I r q⟩
  have ht1 : ∀ (sh : Shared) (H : Hp) (C : Addr) (cl : List (Str × Addr)) (fp : List Addr), PTs (X.blk sh H scope (compEnvC scope cl C X.env) fp) ifs1 (fun σ H Q => ∃ t R, (∀ z, ZTs (bl X scope z) ifs1 t R) ∧ tT X.K t R σ H Q) := fun sh H C cl fp =>
    ⟨fun pins sh' σ H' Q I ⟨t, R, m, q⟩ => (m (sh, H, C, cl, fp)).run pins sh' σ H' Q I q⟩
  have he : ∀ (sh : Shared) (H : Hp) (C : Addr) (cl : List (Str × Addr)) (fp : List Addr), PE (X.blk sh H scope (compEnvC scope cl C X.env) fp) elt (fun σ H Q => ∃ t y t', (∀ z, ZE (bl X scope z) elt t (.d y) t') ∧ tE X.K t (.d y) t' σ H Q) := fun sh H C cl fp =>
    ⟨fun pins sh' σ H' Q I ⟨t, y, t', m, q⟩ => (m (sh, H, C, cl, fp)).run pins sh' σ H' Q I q⟩
  refine ⟨_, ⟨pe_lc2 hc hN hi ok hsub hg ht hi1 hg1 ht1 he hs hs1, fun i y py spos hy hyl hsw => ps_setLc2 hc hN hy hyl hsw hi ok hsub hg ht hi1 hg1 ht1 he hs hs1⟩, fun T σ ρ H Q g fin => ?_⟩
  refine ⟨T, ρ, g, fun J T0 ρ1 H1 p1 g1 w D hD => ?_⟩
  -- what is told by the first i
  obtain ⟨F, hF⟩ : ∃ F : PyData → List PyData, F = fun x => ((es x).filter (q x)).map (f x) := ⟨_, rfl⟩
  obtain ⟨acc, hacc⟩ : ∃ acc : Nat → List PyData, acc = fun i => ((ds.take i).filter p).flatMap F := ⟨_, rfl⟩
  have lenF : ∀ x, (F x).length ≤ (es x).length := fun x => by rw [hF, List.length_map]; exact List.length_filter_le _ _
  have accN : ∀ {i : Nat} {x : PyData}, ds[i]? = some x → acc (i + 1) = acc i ++ (if p x = true then F x else []) := fun {i x} hx => by
    rw [hacc]
    show ((ds.take (i + 1)).filter p).flatMap F = _
    rw [List.take_add_one, hx, Option.toList, List.filter_append, List.flatMap_append]
    congr 1
    by_cases hp : p x = true
    · rw [if_pos hp, List.filter_cons_of_pos hp]; simp
    · rw [if_neg hp, List.filter_cons_of_neg hp]; simp
  have accL : ∀ i, i ≤ ds.length → (acc i).length ≤ ((ds.take i).flatMap es).length := fun i => by
    induction i with
    | zero => intro _; rw [hacc]; simp
    | succ i ih =>
      intro hi
      have hx : ds[i]? = some ds[i] := List.getElem?_eq_getElem hi
      have es1 : ([ds[i]] : List PyData).flatMap es = es ds[i] := by rw [List.flatMap_cons, List.flatMap_nil, List.append_nil]
      rw [accN hx, List.take_add_one, hx, Option.toList, List.flatMap_append, List.length_append, List.length_append, es1]
      have h1 := ih (by omega)
      have h2 := lenF ds[i]
      split
      · omega
      · rw [List.length_nil]; omega
  have gb := g1.blk (own.map (·.2))
  have gD : Sat X.K ⟨wipeE s1.e (own.map (·.2)), s1.R⟩ (wipe σ (own.map (·.2))) ρ1 ((IT.o (OL (acc 0)), some (.ref D)) :: (ES s1.e σ ++ (T0 ++ T))) (upd H1 D (.lst [])) := by
    obtain ⟨F', f'⟩ := gb.ok.fz
    have : acc 0 = [] := by rw [hacc]; simp
    rw [this]
    exact gb.of (f'.lstO (ds := []) (vs := []) .nil hD)
  refine ⟨fun i m H' => m = ds.length - i ∧ i ≤ ds.length ∧ ∃ ρ', ρ1 <+: ρ' ∧ Sat X.K ⟨wipeE s1.e (own.map (·.2)), s1.R⟩ (wipe σ (own.map (·.2))) ρ' ((IT.o (OL (acc i)), some (.ref D)) :: (ES s1.e σ ++ (T0 ++ T))) H', ⟨_, rfl, Nat.zero_le _, ρ1, pre_refl _, gD⟩, ?_⟩
  rintro i m H' ⟨rfl, hi', ρ', p', g'⟩
  have okw : OK X.K (T0 ++ ((IT.o (OL (acc i)), some (.ref D)) :: (ES s1.e σ ++ T) ++ (ES (wipeE s1.e (own.map (·.2))) (wipe σ (own.map (·.2))) ++ RS s1.R ρ'))) H' := by
    refine g'.ok.perm ?_
    show ([(IT.o (OL (acc i)), some (V.ref D))] ++ (ES s1.e σ ++ (T0 ++ T)) ++ (ES (wipeE s1.e (own.map (·.2))) (wipe σ (own.map (·.2))) ++ RS s1.R ρ')).Perm (T0 ++ ([(IT.o (OL (acc i)), some (V.ref D))] ++ (ES s1.e σ ++ T) ++ (ES (wipeE s1.e (own.map (·.2))) (wipe σ (own.map (·.2))) ++ RS s1.R ρ')))
    simp only [List.append_assoc]
    exact ((cas (ES s1.e σ) T0 _).append_left _).trans (cas _ _ _)
  obtain ⟨w1, w2⟩ := w _ H' okw
  by_cases hlt : i < ds.length
  · obtain ⟨go, yl⟩ := w1 i ds[i] (List.getElem?_eq_getElem hlt)
    have hx : ds[i]? = some ds[i] := List.getElem?_eq_getElem hlt
    generalize ds[i] = x at hx yl go
    obtain ⟨t', hG, hR, hT, hI⟩ := turn x (List.mem_of_getElem? hx)
    have an := accN hx
    refine .inr ⟨go, fun H3 => ∃ ρ', ρ1 <+: ρ' ∧ Sat X.K ⟨wipeE s1.e (own.map (·.2)), s1.R⟩ (wipe σ (own.map (·.2))) ρ' ((IT.o (OL (acc (i + 1))), some (.ref D)) :: (ES s1.e σ ++ (T0 ++ T))) H3,
      fun H3 ⟨a1, a2, a3⟩ => ⟨ds.length - (i + 1), by omega, rfl, hlt, a1, a2, a3⟩, fun v H4 y => ?_⟩
    have okv := yl v H4 y
    have g4 : Sat X.K ⟨wipeE s1.e (own.map (·.2)), s1.R⟩ (wipe σ (own.map (·.2))) ρ' ((IT.d x, some v) :: ((IT.o (OL (acc i)), some (.ref D)) :: (ES s1.e σ ++ (T0 ++ T)))) H4 := by
      refine ⟨g'.le, g'.lr, g'.al, okv.perm (List.Perm.cons _ ?_)⟩
      show (T0 ++ ([(IT.o (OL (acc i)), some (V.ref D))] ++ (ES s1.e σ ++ T) ++ (ES (wipeE s1.e (own.map (·.2))) (wipe σ (own.map (·.2))) ++ RS s1.R ρ'))).Perm ([(IT.o (OL (acc i)), some (V.ref D))] ++ (ES s1.e σ ++ (T0 ++ T)) ++ (ES (wipeE s1.e (own.map (·.2))) (wipe σ (own.map (·.2))) ++ RS s1.R ρ'))
      simp only [List.append_assoc]
      exact (cas _ _ _).trans ((cas T0 (ES s1.e σ) _).append_left _)
    refine ⟨x, _, t', hG, _, ρ', ⟨g4.le, g4.lr, g4.al, g4.ok⟩, fun σ2 o g5 => ⟨wipe_off o, ?_⟩⟩
    have back : ∀ {e2 : List SD} {ρ2 : List V} {l2 : List PyData} {H2 : Hp}, ρ' <+: ρ2 → Sat X.K ⟨e2, s1.R⟩ σ2 ρ2 ((IT.o (OL l2), some (.ref D)) :: (ES s1.e σ ++ (T0 ++ T))) H2 →
        Sat X.K ⟨wipeE s1.e (own.map (·.2)), s1.R⟩ (wipe σ (own.map (·.2))) ρ2 ((IT.o (OL l2), some (.ref D)) :: (ES s1.e σ ++ (T0 ++ T))) H2 := fun {e2 ρ2 l2 H2} p2 g2 => by
      have b := g1.unblk (A := [(IT.o (OL l2), some (.ref D))]) (p'.trans p2) g2
      exact (b.blk (own.map (·.2))).tperm List.perm_middle
    refine ⟨t', Is (p x) t', hT, _, ρ', g5, fun b t2 ρ2 H5 hr p2 g6 => ?_⟩
    obtain ⟨eb, et⟩ := hr
    subst et
    obtain ⟨e', R'⟩ := t2
    have hR : R' = s1.R := hR
    subst hR
    cases b with
    | false =>
      refine ⟨ρ2, p'.trans p2, ?_⟩
      rw [an, if_neg (by rw [← eb]; decide), List.append_nil]
      exact back p2 g6
    | true =>
      obtain ⟨hI0, hI1⟩ := hI eb.symm
      rw [if_pos eb.symm] at an
      show ∃ _, _
      refine ⟨⟨e', s1.R⟩, es x, ⟨e', s1.R⟩, hI0, _, ρ2, g6, fun J1 T1 ρ3 H6 p3 g7 wk1 => ?_⟩
      obtain ⟨inn, hinn⟩ : ∃ inn : Nat → List PyData, inn = fun j => (((es x).take j).filter (q x)).map (f x) := ⟨_, rfl⟩
      have innN : ∀ {j : Nat} {y : PyData}, (es x)[j]? = some y → inn (j + 1) = inn j ++ (if q x y = true then [f x y] else []) := fun {j y} hy => by
        rw [hinn]
        show (((es x).take (j + 1)).filter (q x)).map (f x) = _
        rw [List.take_add_one, hy, Option.toList, List.filter_append, List.map_append]
        congr 1
        by_cases hq : q x y = true
        · rw [if_pos hq, List.filter_cons_of_pos hq]; rfl
        · rw [if_neg hq, List.filter_cons_of_neg hq]; rfl
      have innL : ∀ j, (inn j).length ≤ j := fun j => by
        rw [hinn, List.length_map]
        refine Nat.le_trans (List.length_filter_le _ _) ?_
        rw [List.length_take]
        omega
      have room : ∀ j, j < (es x).length → (acc i ++ inn j).length < sizeLine := fun j hj => by
        have h1 := accL i (by omega)
        have h2 := innL j
        have h3 : ((ds.take (i + 1)).flatMap es).length ≤ (ds.flatMap es).length := by
          conv => rhs; rw [← List.take_append_drop (i + 1) ds]
          rw [List.flatMap_append, List.length_append]
          omega
        have es1 : ([x] : List PyData).flatMap es = es x := by rw [List.flatMap_cons, List.flatMap_nil, List.append_nil]
        rw [List.take_add_one, hx, Option.toList, List.flatMap_append, List.length_append, es1] at h3
        rw [List.length_append]
        omega
      -- the frame of the inner round
      have g7' : Sat X.K ⟨e', s1.R⟩ σ2 ρ3 (T1 ++ ((IT.o (OL (acc i)), some (.ref D)) :: (ES s1.e σ ++ (T0 ++ T)))) H6 := g7
      have g7b := g7'.blk vs1
      have g70 : Sat X.K ⟨wipeE e' vs1, s1.R⟩ (wipe σ2 vs1) ρ3 ((IT.o (OL (acc i ++ inn 0)), some (.ref D)) :: (ES e' σ2 ++ (T1 ++ (ES s1.e σ ++ (T0 ++ T))))) H6 := by
        have e0 : acc i ++ inn 0 = acc i := by rw [hinn]; simp
        rw [e0]
        refine g7b.tperm ?_
        show (ES e' σ2 ++ (T1 ++ ([(IT.o (OL (acc i)), some (V.ref D))] ++ (ES s1.e σ ++ (T0 ++ T))))).Perm ([(IT.o (OL (acc i)), some (V.ref D))] ++ (ES e' σ2 ++ (T1 ++ (ES s1.e σ ++ (T0 ++ T)))))
        exact ((cas _ _ _).append_left _).trans (cas _ _ _)
      refine ⟨fun j k H' => k = (es x).length - j ∧ j ≤ (es x).length ∧ ∃ ρ', ρ3 <+: ρ' ∧ Sat X.K ⟨wipeE e' vs1, s1.R⟩ (wipe σ2 vs1) ρ' ((IT.o (OL (acc i ++ inn j)), some (.ref D)) :: (ES e' σ2 ++ (T1 ++ (ES s1.e σ ++ (T0 ++ T))))) H', ⟨_, rfl, Nat.zero_le _, ρ3, pre_refl _, g70⟩, ?_⟩
      rintro j k H7 ⟨rfl, hj, ρ4, p4, g8⟩
      have ok8 : OK X.K (T1 ++ ((IT.o (OL (acc i ++ inn j)), some (.ref D)) :: (ES e' σ2 ++ (ES s1.e σ ++ (T0 ++ T))) ++ (ES (wipeE e' vs1) (wipe σ2 vs1) ++ RS s1.R ρ4))) H7 := by
        refine g8.ok.perm ?_
        show ([(IT.o (OL (acc i ++ inn j)), some (V.ref D))] ++ (ES e' σ2 ++ (T1 ++ (ES s1.e σ ++ (T0 ++ T)))) ++ (ES (wipeE e' vs1) (wipe σ2 vs1) ++ RS s1.R ρ4)).Perm (T1 ++ ([(IT.o (OL (acc i ++ inn j)), some (V.ref D))] ++ (ES e' σ2 ++ (ES s1.e σ ++ (T0 ++ T))) ++ (ES (wipeE e' vs1) (wipe σ2 vs1) ++ RS s1.R ρ4)))
        simp only [List.append_assoc]
        exact ((cas (ES e' σ2) T1 _).append_left _).trans (cas _ _ _)
      obtain ⟨u1, u2⟩ := wk1 _ H7 ok8
      by_cases hjl : j < (es x).length
      · obtain ⟨go1, yl1⟩ := u1 j (es x)[j] (List.getElem?_eq_getElem hjl)
        have hy : (es x)[j]? = some (es x)[j] := List.getElem?_eq_getElem hjl
        generalize (es x)[j] = yy at hy yl1 go1
        obtain ⟨t3, k1, k2, k3, k4⟩ := hI1 yy (List.mem_of_getElem? hy)
        have inN := innN hy
        refine .inr ⟨go1, fun H3 => ∃ ρ', ρ3 <+: ρ' ∧ Sat X.K ⟨wipeE e' vs1, s1.R⟩ (wipe σ2 vs1) ρ' ((IT.o (OL (acc i ++ inn (j + 1))), some (.ref D)) :: (ES e' σ2 ++ (T1 ++ (ES s1.e σ ++ (T0 ++ T))))) H3,
          fun H3 ⟨a1, a2, a3⟩ => ⟨(es x).length - (j + 1), by omega, rfl, hjl, a1, a2, a3⟩, fun v2 H8 y2 => ?_⟩
        have okv2 := yl1 v2 H8 y2
        have g9 : Sat X.K ⟨wipeE e' vs1, s1.R⟩ (wipe σ2 vs1) ρ4 ((IT.d yy, some v2) :: ((IT.o (OL (acc i ++ inn j)), some (.ref D)) :: (ES e' σ2 ++ (T1 ++ (ES s1.e σ ++ (T0 ++ T)))))) H8 := by
          refine ⟨g8.le, g8.lr, g8.al, okv2.perm (List.Perm.cons _ ?_)⟩
          show (T1 ++ ([(IT.o (OL (acc i ++ inn j)), some (V.ref D))] ++ (ES e' σ2 ++ (ES s1.e σ ++ (T0 ++ T))) ++ (ES (wipeE e' vs1) (wipe σ2 vs1) ++ RS s1.R ρ4))).Perm ([(IT.o (OL (acc i ++ inn j)), some (V.ref D))] ++ (ES e' σ2 ++ (T1 ++ (ES s1.e σ ++ (T0 ++ T)))) ++ (ES (wipeE e' vs1) (wipe σ2 vs1) ++ RS s1.R ρ4))
          simp only [List.append_assoc]
          exact (cas _ _ _).trans ((cas T1 (ES e' σ2) _).append_left _)
        refine ⟨yy, _, t3, k1, _, ρ4, g9, fun σ3 o3 ga => ⟨wipe_off o3, ?_⟩⟩
        have back1 : ∀ {e2 : List SD} {ρ5 : List V} {l2 : List PyData} {H2 : Hp}, ρ4 <+: ρ5 → Sat X.K ⟨e2, s1.R⟩ σ3 ρ5 ((IT.o (OL l2), some (.ref D)) :: (ES e' σ2 ++ (T1 ++ (ES s1.e σ ++ (T0 ++ T))))) H2 →
            Sat X.K ⟨wipeE e' vs1, s1.R⟩ (wipe σ2 vs1) ρ5 ((IT.o (OL l2), some (.ref D)) :: (ES e' σ2 ++ (T1 ++ (ES s1.e σ ++ (T0 ++ T))))) H2 := fun {e2 ρ5 l2 H2} p5 g2 => by
          have b := g7'.unblk (A := [(IT.o (OL l2), some (.ref D))]) (p4.trans p5) g2
          exact (b.blk vs1).tperm List.perm_middle
        obtain ⟨e3, R3⟩ := t3
        have k2 : R3 = s1.R := k2
        subst k2
        refine ⟨⟨e3, s1.R⟩, Is (q x yy) ⟨e3, s1.R⟩, k3, _, ρ4, ga, fun b2 t4 ρ5 H9 hr2 p5 gb => ?_⟩
        obtain ⟨eb2, et2⟩ := hr2
        subst et2
        cases b2 with
        | false =>
          refine ⟨ρ5, p4.trans p5, ?_⟩
          rw [inN, if_neg (by rw [← eb2]; decide), List.append_nil]
          exact back1 p5 gb
        | true =>
          rw [if_pos eb2.symm] at inN
          show ∃ _, _
          refine ⟨⟨e3, s1.R⟩, f x yy, ⟨e3, s1.R⟩, k4 eb2.symm, _, ρ5, gb, fun u ρ6 Ha p6 _ gc => ?_⟩
          have g8' : OK X.K ((IT.o (OL (acc i ++ inn j)), some (.ref D)) :: ((IT.d (f x yy), some u) :: (ES e' σ2 ++ (T1 ++ (ES s1.e σ ++ (T0 ++ T)))) ++ (ES e3 σ3 ++ RS s1.R ρ6))) Ha := gc.ok.perm (List.Perm.swap _ _ _)
          obtain ⟨F', f'⟩ := g8'.fz
          obtain ⟨pD, vs', e4, h1, h2, h3⟩ := f'.putL (ds' := acc i ++ inn j)
          cases e4
          obtain ⟨u', e5, hu⟩ := f'.at (x := f x yy) (v := some u) (List.mem_cons_of_mem _ List.mem_cons_self)
          cases e5
          refine ⟨vs', h1, by rw [dpsLen h2]; exact room j hjl, ρ6, (p4.trans p5).trans p6, back1 (e2 := e3) (p5.trans p6) ?_⟩
          have kk := h3 (acc i ++ inn (j + 1)) (vs' ++ [u]) (by rw [inN, ← List.append_assoc]; exact dpsApp h2 (.cons hu .nil))
          exact ⟨gc.le, gc.lr, gc.al, ((kk.perm (List.Perm.swap _ _ _)).tail)⟩
      · have e0 : j = (es x).length := by omega
        subst e0
        refine .inl ⟨u2, ρ4, ((p'.trans p2).trans p3).trans p4, ?_⟩
        have ei : inn (es x).length = F x := by rw [hinn, hF]; show (((es x).take _).filter (q x)).map (f x) = _; rw [List.take_length]
        rw [ei, ← an] at g8
        have b := g7'.unblk (A := [(IT.o (OL (acc (i + 1))), some (.ref D))]) p4 g8
        have b2 : Sat X.K ⟨e', s1.R⟩ σ2 ρ4 ((IT.o (OL (acc (i + 1))), some (.ref D)) :: (ES s1.e σ ++ (T0 ++ T))) H7 := by
          have b3 : Sat X.K ⟨e', s1.R⟩ σ2 ρ4 (T1 ++ ((IT.o (OL (acc (i + 1))), some (.ref D)) :: (ES s1.e σ ++ (T0 ++ T)))) H7 := b.tperm List.perm_middle.symm
          exact b3.tdrops
        exact back ((p2.trans p3).trans p4) b2
  · have e : i = ds.length := by omega
    subst e
    refine .inl ⟨w2, ?_⟩
    have b := g1.unblk (A := [(IT.o (OL (acc ds.length)), some (.ref D))]) p' g'
    have b2 : Sat X.K s1 σ ρ' ((IT.o (OL (acc ds.length)), some (.ref D)) :: (T0 ++ T)) H' := b
    have b3 : Sat X.K s1 σ ρ' (T0 ++ ((IT.o (OL (acc ds.length)), some (.ref D)) :: T)) H' := b2.tperm List.perm_middle.symm
    have ea : acc ds.length = (ds.filter p).flatMap fun x => ((es x).filter (q x)).map (f x) := by rw [hacc, hF]; show ((ds.take _).filter p).flatMap _ = _; rw [List.take_length]
    have b4 := b3.tdrops
    rw [ea] at b4
    exact fin ρ' D H' (p1.trans p') b4

end
end Z

namespace Z
open PySem L2 PyProof.Rows

section
open AutoSeq1 MeetsSeq MeetsSeq2
theorem add_any (l : Addr) (its : Array Value) (n : Nat) (b : Addr) (its2 : Array Value) (n2 : Nat) (dd d1 : Option Addr) (sl s1 : Array (Option Value)) (h2 : its.size + its2.size ≤ sizeLine) :
    PySem.Meets (Builtin.«list.__add__» ⟨[.ref l, .ref b], []⟩) (fun _ R s => s.heap.get? l = some { cls := .type "list", dict := d1, data := .seq its n, slots := s1 } ∧ s.heap.get? b = some { cls := .type "list", dict := dd, data := .seq its2 n2, slots := sl } ∧
      R (.ok (.ret (Value.ref s.heap.objs.size))) { s with heap := s.heap.push { cls := Value.type "list", data := Data.seq (its ++ its2) }, toks := s.toks }) :=
  PySem.Meets.of_wp fun prog w A R s h => by
    obtain ⟨hp, g, d, tk, os⟩ := s
    obtain ⟨hl, hb, h⟩ := h
    have hc0 := h2
    have f1 := AutoSeq1.idx_int
    have f2 := AutoSeq1.sub_tuple_tuple
    have f3 := AutoSeq1.sub_list_list
    have f4 := AutoSeq1.sub_tuple_list
    have f5 := AutoSeq1.sub_list_tuple
    wp_walk using wpAny_loadPart' hl, wpAny_loadPart' hb
    exact ⟨_, rfl, h⟩
theorem iadd_any (l : Addr) (its : Array Value) (n : Nat) (b : Addr) (its2 : Array Value) (n2 : Nat) (dd : Option Addr) (sl : Array (Option Value)) (h0 : ¬(!its.isEmpty && Builtin.List.listTooLong (its.size + its2.size)) = true) (h1 : its.size ≤ sizeLine) (h2 : its.size + its2.size ≤ sizeLine + 1) :
    PySem.Meets (Builtin.«list.__iadd__» ⟨[.ref l, .ref b], []⟩) (fun _ R s => s.heap.get? l = some { cls := .type "list", dict := none, data := .seq its n, slots := #[] } ∧ s.heap.get? b = some { cls := .type "list", dict := dd, data := .seq its2 n2, slots := sl } ∧
      R (.ok (.ret (Value.ref l))) { s with heap := s.heap.update l (Obj.mapSeq fun x => x ++ its2), toks := s.toks }) :=
  PySem.Meets.of_wp fun prog w A R s h => by
    obtain ⟨hp, g, d, tk, os⟩ := s
    obtain ⟨hl, hb, h⟩ := h
    have f1 := AutoSeq1.idx_int
    have f2 := AutoSeq1.sub_tuple_tuple
    have f3 := AutoSeq1.sub_list_list
    have f4 := AutoSeq1.sub_tuple_list
    have f5 := AutoSeq1.sub_list_tuple
    have hz' : (its ++ its2).size ≤ sizeLine + 1 := by rw [Array.size_append]; exact h2
    wp_walk using (wpAny_updateSeq hl rfl (hz := h1) (_hz' := hz')), wpAny_loadPart' hl, wpAny_loadPart' hb
    exact ⟨_, rfl, h⟩
theorem tup_mul1 (l : Addr) (items : Array Value) (n : Nat) (dd : Option Addr) (sl : Array (Option Value)) (x : Int) (u : Tok) (c0 : (decide (x < -(2 ^ 63)) || decide (x ≥ 2 ^ 63)) = false) (c1 : (items.isEmpty || x == 1) = true) :
    PySem.Meets (Builtin.«tuple.__mul__» ⟨[.ref l, .int x u], []⟩) (fun _ R s => s.heap.get? l = some { cls := .type "tuple", dict := dd, data := .seq items n, slots := sl } ∧
      R (.ok (.ret (Value.ref l))) { s with heap := s.heap, toks := s.toks }) :=
  PySem.Meets.of_wp fun prog w A R s h => by
    obtain ⟨hp, g, d, tk, os⟩ := s
    obtain ⟨hl, h⟩ := h
    have f1 := AutoSeq1.idx_int
    wp_walk using wpAny_loadPart' hl
    repeat (first
      | (refine wpAny_ite_false (decide_eq_false (by rw [c0]; exact Bool.false_ne_true)) ?_; wp_walk using wpAny_loadPart' hl)
      | (refine wpAny_ite_true (decide_eq_true (by rw [c1])) ?_; wp_walk using wpAny_loadPart' hl))
    exact ⟨_, rfl, h⟩
end
section
variable {X : Cx} {e a b c : Expr} {es : List Expr} {st : Stmt} {rest body : List Stmt} {s s' s1 s2 s3 : S} {r r1 : SD} {rs : List SD} {pos p p2 q : Pos} {P : Po} {x y : PyData} {i j k : Int} {o n : Nat} {ds es' : List PyData}
def rCatQ (K : PySem.W.Frag) : R2 := fun x y H Q => ∃ l b xs zs, x = V.ref l ∧ y = V.ref b ∧ SqL K H l xs ∧ SqL K H b zs ∧ xs.length + zs.length ≤ sizeLine ∧ ∀ p, H p = none → Q (.ref p) (upd H p (.lst (xs ++ zs)))
theorem op_catQ : OpR X (binaryOp .Add) (rCatQ X.K) := by
  intro pins s σ H x y v u Q I rx ry h
  obtain ⟨l, b, xs, zs, rfl, rfl, hH, hB, hz, q⟩ := h
  cases rx
  cases ry
  obtain ⟨its, r, ⟨o1, n, e1, c1, d1, f1⟩, z⟩ := I.list hH
  obtain ⟨its2, r2, ⟨o2, n2, e2, c2, d2, f2⟩, z2⟩ := I.list hB
  have h1 := r.length
  have h2 := r2.length
  obtain ⟨oc, od, dt, sl⟩ := o1
  obtain ⟨oc', od', dt', sl'⟩ := o2
  simp only at c1 c2 f1 f2
  subst c1 c2 f1 f2
  refine concat_meets ⟨_, e1, rfl⟩ ⟨_, e2, rfl⟩ noFill_list_add seq_list_add F.slot_list_add F.entry_list_add (F.args_list_add_2 _ _) (add_any l its.toArray n b its2.toArray n2 od' od sl' sl (by rw [List.size_toArray, List.size_toArray]; omega)) ⟨e1, e2, ?_⟩
  have ea : its.toArray ++ its2.toArray = (its ++ its2).toArray := by simp
  rw [ea]
  exact ⟨.ref _, _, I.lnew (t' := s.toks) (r.append r2) (by rw [List.length_append]; omega), rfl, q _ I.fresh⟩
def ipExtQ (K : PySem.W.Frag) : TIp := fun x y H Q => ∃ l b xs zs, x = V.ref l ∧ y = V.ref b ∧ H l = some (.lst xs) ∧ SqL K H b zs ∧ xs.length + zs.length ≤ sizeLine ∧ Q (.ref l) (upd H l (.lst (xs ++ zs)))
theorem ip_extQ : PIp X .Add (ipExtQ X.K) := by
  intro pins s σ H x y v u Q I rx ry h
  obtain ⟨l, b, xs, zs, rfl, rfl, hl, hb, hz, q⟩ := h
  cases rx
  cases ry
  obtain ⟨z, its, n, r, h1, e⟩ := I.lstM hl
  obtain ⟨its2, r2, ⟨ob, n2, e2, e3, e4, e5⟩, z2⟩ := I.list hb
  obtain ⟨oc, od, dt, sl⟩ := ob
  simp only at e3 e4 e5
  subst e3 e5
  have h2 := r2.length
  have hsz : its.toArray.size + its2.toArray.size ≤ sizeLine := by rw [List.size_toArray, List.size_toArray]; omega
  refine iadd_road ⟨_, e, rfl⟩ ⟨_, e2, rfl⟩ (call_meets F.slot_list_iadd ⟨_, e, rfl⟩ F.entry_list_iadd (F.args_list_iadd_2 _ _)
    (iadd_any l its.toArray n b its2.toArray n2 od sl (by rw [notLongL hsz, Bool.and_false]; exact Bool.false_ne_true) (by rw [List.size_toArray]; omega) (by omega)) ⟨e, e2, ?_⟩)
  refine ⟨.ref l, _, I.lset (its' := its ++ its2) (t' := s.toks) hl e (by simp) (r.append r2) ?_, rfl, q⟩
  rw [List.length_append]
  omega
/-- t * k, k at least 1 -/
def rRepQ (K : PySem.W.Frag) : R2 := fun x y H Q => ∃ l k xs, x = V.ref l ∧ y = V.int k ∧ SqT K H l xs ∧ xs ≠ [] ∧ 1 ≤ k ∧ k ≤ 1000 ∧ xs.length ≤ 1000 ∧ (k = 1 → Q (.ref l) H) ∧ (2 ≤ k → ∀ p, H p = none → Q (.ref p) (upd H p (.tup (List.replicate k.toNat xs).flatten)))
theorem op_repQ : OpR X (binaryOp .Mult) (rRepQ X.K) := by
  intro pins s σ H x y v u Q I rx ry h
  obtain ⟨l, k, xs, rfl, rfl, hT, hne, h1, h2, hz, q1, q2⟩ := h
  by_cases hk : k = 1
  · subst hk
    cases rx
    obtain ⟨t, rfl⟩ := ry
    obtain ⟨its, r, ⟨⟨cls, dd, data, sl⟩, ho, hc, n, hd⟩, hs⟩ := I.tuple hT
    simp only at hc hd
    subst hc hd
    exact wpAny_binaryOp_repeat_ref (T := "tuple") (U := "int") (by decide) ⟨_, ho, rfl⟩ (fun s' => typeIs_int s' 1 t) noFill_tuple_mul F.fills_int_mul F.slot_int_rmul repeat_tuple F.slot_int_index.lookup
      (call_meets F.slot_int_rmul (typeIs_int s 1 t) F.entry_int_rmul (F.args_int_rmul_2 _ _) (int_rmul_tuple 1 t l its.toArray n dd sl)
        ⟨ho, rfl, ⟨_, ho, rfl⟩, call_meets F.slot_tuple_mul ⟨_, ho, rfl⟩ F.entry_tuple_mul (F.args_tuple_mul_2 _ _) (tup_mul1 l its.toArray n dd sl 1 t rfl (by simp)) ⟨ho, ⟨.ref l, H, I.tok s.toks, rfl, q1 rfl⟩⟩⟩)
  · exact op_repT pins s σ H _ _ v u Q I rx ry ⟨l, k, xs, rfl, rfl, hT, hne, by omega, h2, hz, q2 (by omega)⟩
end
end Z

namespace Z
open PySem L2 PyProof.Rows

section
variable {X : Cx} {e a b c : Expr} {es : List Expr} {st : Stmt} {rest body : List Stmt} {s s' s1 s2 s3 : S} {r : SD} {rs : List SD} {pos p : Pos} {P : Po} {ds : List PyData} {x y : PyData} {f f' : PyData → PyData → Prop} {D D' : PyData → Prop} {o : Nat}
/-- a dict of answers: each told answer is right, each key of D is there -/
def OMs (pr : Program) (w : World) (f : PyData → PyData → Prop) (D : PyData → Prop) : Own where
  holds := fun K F H v fp => ∃ p xs, v = .ref p ∧ fp = [p] ∧ H p = some (DxO pr w p xs) ∧ (∀ d, D d → (atKey xs d).isSome = true) ∧ ∀ e ∈ xs, KyD K F e.2.1 e.1 ∧ ∃ vv dv, RelV vv e.2.2 ∧ Dp K F vv dv ∧ f e.1 dv
  stay := fun ⟨p, xs, e1, e2, e3, e0, e4⟩ e k => ⟨p, xs, e1, e2, k p (by rw [e2]; simp) _ e3, e0, fun z hz => let ⟨⟨a1, a2, a3⟩, vv, dv, a4, a5, a6⟩ := e4 z hz; ⟨⟨dpUp e _ _ a1, a2, a3⟩, vv, dv, a4, dpUp e _ _ a5, a6⟩⟩
theorem OMs.le {pr : Program} {w : World} (h1 : ∀ k v, f k v → f' k v) (h2 : ∀ d, D' d → D d) : OLe (OMs pr w f D) (OMs pr w f' D') := fun K F H v fp ⟨p, xs, e1, e2, e3, e0, e4⟩ => ⟨p, xs, e1, e2, e3, fun d hd => e0 d (h2 d hd), fun z hz => let ⟨a1, vv, dv, a4, a5, a6⟩ := e4 z hz; ⟨a1, vv, dv, a4, a5, h1 _ _ a6⟩⟩
end
end Z

namespace Z
open PySem L2 PyProof.Rows

section
variable {X : Cx} {rest : List Stmt} {s s1 : S} {P : Po} {ds : List PyData} {o : Nat}
def ODead : Own where
  holds := fun _ _ _ _ fp => fp = []
  stay := fun h _ _ => h
theorem OK.dead {K : PySem.W.Frag} {l : List En} {H : Hp} {v : V} (h : OK K l H) : OK K ((IT.o ODead, some v) :: l) H := by
  obtain ⟨F, L, e, g⟩ := h
  exact ⟨F, (((IT.o ODead, some v), []) :: L), by rw [List.map_cons, e], g.oCons rfl List.nodup_nil (fun a ha => by cases ha) (fun a ha => by cases ha)⟩
theorem Sat.slots {K : PySem.W.Frag} {σ : L2.St} {ρ : List V} {T : List En} {H : Hp} {v : V} {x : PyData} : ∀ (is : List Nat) {s : S}, is.Nodup → (∀ i ∈ is, s.e[i]? = some (.r o)) → Sat K s σ ρ ((IT.d x, some v) :: T) H → ρ[o]? = some v → Sat K ⟨is.foldl (fun e i => e.set i (.d x)) s.e, s.R⟩ σ ρ ((IT.d x, some v) :: T) H
  | [], s, _, _, g, _ => g
  | i :: is, s, nd, hi, g, hv => by
    have h0 := hi i List.mem_cons_self
    obtain ⟨u, e1, e2⟩ := g.al i o h0
    have eu : u = v := Option.some.inj (e2.symm.trans hv)
    subst eu
    obtain ⟨u', e3, _, ok⟩ := g.ok.dup (x := x) (v := some u) (List.mem_append_left _ List.mem_cons_self)
    cases e3
    have g2 : Sat K s σ ρ ((itOf (SD.d x), some u) :: ((IT.d x, some u) :: T)) H := ⟨g.le, g.lr, g.al, ok⟩
    have g3 := Sat.put (i := i) (r := .d x) (List.getElem?_eq_some_iff.mp h0).1 trivial g2
    rw [set_self e1] at g3
    have nd' := List.nodup_cons.mp nd
    exact Sat.slots is (s := ⟨s.e.set i (.d x), s.R⟩) nd'.2 (fun k hk => by
      show (s.e.set i (.d x))[k]? = _
      rw [List.getElem?_set_ne (fun e => nd'.1 (by rw [e]; exact hk))]
      exact hi k (List.mem_cons_of_mem _ hk)) g3 hv
end
end Z

namespace N
open PySem L2 PyProof.Rows
open Z (Ext dpUp dpsUp dpsLen dpsGet DxO KyD DEn)

/-- a value: a datum, or a reference to an object of the store -/
inductive D where
  | d (x : PyData) | r (j : Nat)
/-- an object of the store: a list; a dict with tuples as keys; one with ints and texts; a dict with tuples as keys that is being gone through; a range; nothing known -/
inductive Cell where
  | lst (ds : List D) | dic (kvs : List (PyData × D)) | dk (kvs : List (Key × D)) | dfz (kvs : List (PyData × D)) | rng (lo hi : Int) | gone
abbrev Sto := List Cell
abbrev Lo := List (Option D)
structure Ba where
  P : Program
  w : World
  K : PySem.W.Frag
structure W where
  F : Hp
  ρ : List Addr
structure W.le (w w' : W) : Prop where
  F : Ext w.F w'.F
  ρ : w.ρ <+: w'.ρ
theorem W.le.refl (w : W) : w.le w := ⟨Ext.refl _, List.prefix_rfl⟩
theorem W.le.trans {a b c : W} (h : a.le b) (g : b.le c) : a.le c := ⟨h.F.trans g.F, h.ρ.trans g.ρ⟩
abbrev W.take (w : W) (n : Nat) : W := ⟨w.F, w.ρ.take n⟩
theorem W.take_le (w : W) (n : Nat) : (w.take n).le w := ⟨Ext.refl _, List.take_prefix _ _⟩

def VR (B : Ba) (w : W) (v : V) : D → Prop
  | .d x => Dp B.K w.F v x
  | .r j => ∃ a, w.ρ[j]? = some a ∧ v = .ref a
def VRs (B : Ba) (w : W) : List V → List D → Prop
  | [], [] => True
  | v :: vs, d :: ds => VR B w v d ∧ VRs B w vs ds
  | _, _ => False
def DR (B : Ba) (w : W) : List DEn → List (PyData × D) → Prop
  | [], [] => True
  | e :: xs, kv :: kvs => (e.1 = kv.1 ∧ KyD B.K w.F e.2.1 e.1 ∧ ∃ vv, RelV vv e.2.2 ∧ VR B w vv kv.2) ∧ DR B w xs kvs
  | _, _ => False
def KR (B : Ba) (w : W) : List (Key × V) → List (Key × D) → Prop
  | [], [] => True
  | e :: xs, kv :: kvs => (e.1 = kv.1 ∧ VR B w e.2 kv.2) ∧ KR B w xs kvs
  | _, _ => False
def CR (B : Ba) (w : W) (H : Hp) (a : Addr) : Cell → Prop
  | .lst ds => w.F a = none ∧ ∃ vs, H a = some (.lst vs) ∧ VRs B w vs ds
  | .dic kvs => w.F a = none ∧ ∃ xs, H a = some (DxO B.P B.w a xs) ∧ DR B w xs kvs
  | .dk kvs => w.F a = none ∧ ∃ xs, H a = some (.dK xs) ∧ KR B w xs kvs
  | .dfz kvs => ∃ o xs, w.F a = some (.frz o (DxO B.P B.w a xs)) ∧ DR B w xs kvs
  | .rng lo hi => w.F a = none ∧ H a = some (.rng lo hi)
  | .gone => True
structure Ok (B : Ba) (w : W) (s : Sto) (H : Hp) : Prop where
  ext : Ext w.F H
  lr : w.ρ.length = s.length
  nd : w.ρ.Nodup
  al : ∀ a ∈ w.ρ, ∃ o, H a = some o
  ce : ∀ (j : Nat) (c : Cell) (a : Addr), s[j]? = some c → w.ρ[j]? = some a → CR B w H a c
structure Sl (B : Ba) (w : W) (e : Lo) (σ : L2.St) : Prop where
  le : e.length = σ.length
  sl : ∀ (i : Nat) (d : D), e[i]? = some (some d) → ∃ v, σ[i]? = some (some v) ∧ VR B w v d

section
variable {B : Ba} {w w' : W} {H H' : Hp} {e : Lo} {s : Sto} {σ : L2.St} {v : V} {d : D} {vs : List V} {ds : List D}
theorem pre_get {α : Type} {l m : List α} (p : l <+: m) {i : Nat} {a : α} (h : l[i]? = some a) : m[i]? = some a := by
  obtain ⟨k, rfl⟩ := p
  rw [List.getElem?_append_left (List.getElem?_eq_some_iff.mp h).1]
  exact h
theorem VR.up (l : w.le w') : ∀ {d : D}, VR B w v d → VR B w' v d
  | .d x, h => dpUp l.F x v h
  | .r j, ⟨a, h1, h2⟩ => ⟨a, pre_get l.ρ h1, h2⟩
theorem VRs.up (l : w.le w') : ∀ {vs : List V} {ds : List D}, VRs B w vs ds → VRs B w' vs ds
  | [], [], _ => trivial
  | v :: vs, d :: ds, ⟨h1, h2⟩ => ⟨h1.up l, VRs.up l h2⟩
  | [], _ :: _, h => h.elim
  | _ :: _, [], h => h.elim
theorem DR.up (l : w.le w') : ∀ {xs : List DEn} {kvs : List (PyData × D)}, DR B w xs kvs → DR B w' xs kvs
  | [], [], _ => trivial
  | e :: vs, d :: ds, ⟨⟨h1, ⟨h2, h3⟩, vv, h4, h5⟩, h6⟩ => ⟨⟨h1, ⟨dpUp l.F _ _ h2, h3⟩, vv, h4, h5.up l⟩, DR.up l h6⟩
  | [], _ :: _, h => h.elim
  | _ :: _, [], h => h.elim
theorem KR.up (l : w.le w') : ∀ {xs : List (Key × V)} {kvs : List (Key × D)}, KR B w xs kvs → KR B w' xs kvs
  | [], [], _ => trivial
  | e :: vs, d :: ds, ⟨⟨h1, h2⟩, h6⟩ => ⟨⟨h1, h2.up l⟩, KR.up l h6⟩
  | [], _ :: _, h => h.elim
  | _ :: _, [], h => h.elim
theorem Sl.up (l : w.le w') (h : Sl B w e σ) : Sl B w' e σ := ⟨h.le, fun i d q => let ⟨v, h1, h2⟩ := h.sl i d q; ⟨v, h1, h2.up l⟩⟩
theorem VRs.len : ∀ {vs : List V} {ds : List D}, VRs B w vs ds → vs.length = ds.length
  | [], [], _ => rfl
  | v :: vs, d :: ds, ⟨h1, h2⟩ => by simp [VRs.len h2]
  | [], _ :: _, h => h.elim
  | _ :: _, [], h => h.elim
theorem VRs.get : ∀ {vs : List V} {ds : List D} {i : Nat} {d : D}, VRs B w vs ds → ds[i]? = some d → ∃ v, vs[i]? = some v ∧ VR B w v d
  | [], [], i, d, _, h => by simp at h
  | v :: vs, d :: ds, 0, d', ⟨h1, h2⟩, h => by simp at h; subst h; exact ⟨v, rfl, h1⟩
  | v :: vs, d :: ds, i + 1, d', ⟨h1, h2⟩, h => by
    obtain ⟨u, a, b⟩ := VRs.get h2 (i := i) (d := d') (by simpa using h)
    exact ⟨u, by simpa using a, b⟩
  | [], _ :: _, _, _, h, _ => h.elim
  | _ :: _, [], _, _, h, _ => h.elim
theorem VRs.app : ∀ {vs us : List V} {ds es : List D}, VRs B w vs ds → VRs B w us es → VRs B w (vs ++ us) (ds ++ es)
  | [], _, [], _, _, h => h
  | v :: vs, _, d :: ds, _, ⟨h1, h2⟩, h => ⟨h1, VRs.app h2 h⟩
  | [], _, _ :: _, _, h, _ => h.elim
  | _ :: _, _, [], _, h, _ => h.elim
theorem VRs.set (hv : VR B w v d) : ∀ {vs : List V} {ds : List D} (i : Nat), VRs B w vs ds → VRs B w (vs.set i v) (ds.set i d)
  | [], [], _, _ => trivial
  | _ :: _, _ :: _, 0, ⟨_, h2⟩ => ⟨hv, h2⟩
  | _ :: _, _ :: _, i + 1, ⟨h1, h2⟩ => ⟨h1, VRs.set hv i h2⟩
  | [], _ :: _, _, h => h.elim
  | _ :: _, [], _, h => h.elim
theorem VRs.take : ∀ {vs : List V} {ds : List D} (n : Nat), VRs B w vs ds → VRs B w (vs.take n) (ds.take n)
  | _, _, 0, _ => trivial
  | [], [], n + 1, _ => trivial
  | _ :: _, _ :: _, n + 1, ⟨h1, h2⟩ => ⟨h1, VRs.take n h2⟩
  | [], _ :: _, _ + 1, h => h.elim
  | _ :: _, [], _ + 1, h => h.elim
theorem VRs.drop : ∀ {vs : List V} {ds : List D} (n : Nat), VRs B w vs ds → VRs B w (vs.drop n) (ds.drop n)
  | _, _, 0, h => h
  | [], [], n + 1, _ => trivial
  | _ :: _, _ :: _, n + 1, ⟨_, h2⟩ => VRs.drop n h2
  | [], _ :: _, _ + 1, h => h.elim
  | _ :: _, [], _ + 1, h => h.elim
theorem VRs.rev : ∀ {vs : List V} {ds : List D}, VRs B w vs ds → VRs B w vs.reverse ds.reverse
  | [], [], _ => trivial
  | v :: vs, d :: ds, ⟨h1, h2⟩ => by
    rw [List.reverse_cons, List.reverse_cons]
    exact VRs.app (VRs.rev h2) ⟨h1, trivial⟩
  | [], _ :: _, h => h.elim
  | _ :: _, [], h => h.elim
theorem VRs.eraseIdx : ∀ {vs : List V} {ds : List D} (n : Nat), VRs B w vs ds → VRs B w (vs.eraseIdx n) (ds.eraseIdx n)
  | [], [], _, _ => trivial
  | _ :: _, _ :: _, 0, ⟨_, h⟩ => h
  | _ :: _, _ :: _, n + 1, ⟨h1, h2⟩ => ⟨h1, VRs.eraseIdx n h2⟩
  | [], _ :: _, _, h => h.elim
  | _ :: _, [], _, h => h.elim
/-- a row of data -/
theorem VRs.data : ∀ {vs : List V} {xs : List PyData}, VRs B w vs (xs.map .d) ↔ DpAll B.K w.F vs xs
  | [], [] => ⟨fun _ => .nil, fun _ => trivial⟩
  | v :: vs, x :: xs => ⟨fun ⟨h1, h2⟩ => .cons h1 (VRs.data.mp h2), fun h => by cases h with | cons h1 h2 => exact ⟨h1, VRs.data.mpr h2⟩⟩
  | [], _ :: _ => ⟨fun h => h.elim, fun h => by cases h⟩
  | _ :: _, [] => ⟨fun h => h.elim, fun h => by cases h⟩
theorem VRs.below : ∀ {vs : List V} {ds : List D}, VRs B w vs ds → ∀ j, D.r j ∈ ds → j < w.ρ.length
  | [], [], _, j, h => by simp at h
  | v :: vs, d :: ds, ⟨h1, h2⟩, j, h => by
    rcases List.mem_cons.mp h with h | h
    · subst h
      obtain ⟨a, h3, _⟩ := h1
      exact (List.getElem?_eq_some_iff.mp h3).1
    · exact VRs.below h2 j h
  | [], _ :: _, h, _, _ => h.elim
  | _ :: _, [], h, _, _ => h.elim

theorem CR.up (l : w.le w') {a : Addr} {c : Cell} (h : CR B w H a c) (hF : w.F a = none → w'.F a = none) (hH : ∀ o, H a = some o → H' a = some o) : CR B w' H' a c := by
  cases c with
  | lst ds => obtain ⟨h1, vs, h2, h3⟩ := h; exact ⟨hF h1, vs, hH _ h2, h3.up l⟩
  | dic ds => obtain ⟨h1, vs, h2, h3⟩ := h; exact ⟨hF h1, vs, hH _ h2, h3.up l⟩
  | dk ds => obtain ⟨h1, vs, h2, h3⟩ := h; exact ⟨hF h1, vs, hH _ h2, h3.up l⟩
  | dfz ds => obtain ⟨o, xs, h2, h3⟩ := h; exact ⟨o, xs, l.F a _ h2, h3.up l⟩
  | rng lo hi => exact ⟨hF h.1, hH _ h.2⟩
  | gone => trivial
theorem CR.gone {a : Addr} : CR B w H a .gone := trivial
theorem ext_none (g : Ext w.F H) {p : Addr} (hp : H p = none) : w.F p = none := by
  cases q : w.F p with
  | none => rfl
  | some o => rw [g p o q] at hp; cases hp
theorem Ok.notin (g : Ok B w s H) {p : Addr} (hp : H p = none) : p ∉ w.ρ := fun h => by
  obtain ⟨o, ho⟩ := g.al p h
  rw [hp] at ho
  cases ho
/-- a new thing laid down for good -/
theorem Ok.frz (g : Ok B w s H) {p : Addr} {o : HO} (hp : H p = none) : Ok B ⟨upd w.F p o, w.ρ⟩ s (upd H p o) := by
  have l : w.le ⟨upd w.F p o, w.ρ⟩ := ⟨Ext.up (ext_none g.ext hp), List.prefix_rfl⟩
  refine ⟨fun a u q => ?_, g.lr, g.nd, fun a ha => ?_, fun j c a h1 h2 => ?_⟩
  · have q : upd w.F p o a = some u := q
    by_cases e : a = p
    · subst e; rw [upd_same] at q ⊢; exact q
    · rw [upd_ne e] at q ⊢; exact g.ext a u q
  · obtain ⟨u, hu⟩ := g.al a ha
    exact ⟨u, by rw [upd_ne (ne_of_none hu hp)]; exact hu⟩
  · have ha := List.mem_of_getElem? h2
    have ne : a ≠ p := fun e => g.notin hp (e ▸ ha)
    have k := g.ce j c a h1 h2
    refine k.up l (fun hn => ?_) fun o ho => by rw [upd_ne ne]; exact ho
    show upd w.F p _ a = none
    rw [upd_ne ne]; exact hn
theorem Ok.frz_le (g : Ok B w s H) {p : Addr} {o : HO} (hp : H p = none) : w.le ⟨upd w.F p o, w.ρ⟩ := ⟨Ext.up (ext_none g.ext hp), List.prefix_rfl⟩
/-- a new object of the store -/
theorem Ok.new (g : Ok B w s H) {p : Addr} {o : HO} {c : Cell} (hp : H p = none) (hc : CR B ⟨w.F, w.ρ ++ [p]⟩ (upd H p o) p c) : Ok B ⟨w.F, w.ρ ++ [p]⟩ (s ++ [c]) (upd H p o) := by
  have l : w.le ⟨w.F, w.ρ ++ [p]⟩ := ⟨Ext.refl _, List.prefix_append _ _⟩
  refine ⟨fun a u q => ?_, by simp [g.lr], ?_, fun a ha => ?_, fun j c' a h1 h2 => ?_⟩
  · have := g.ext a u q
    rw [upd_ne (ne_of_none this hp)]
    exact this
  · show (w.ρ ++ [p]).Nodup
    rw [List.nodup_append]
    exact ⟨g.nd, by simp, fun a ha b hb => by
      have : b = p := by simpa using hb
      subst this
      exact fun e => g.notin hp (e ▸ ha)⟩
  · rcases List.mem_append.mp ha with h | h
    · obtain ⟨u, hu⟩ := g.al a h
      exact ⟨u, by rw [upd_ne (ne_of_none hu hp)]; exact hu⟩
    · have : a = p := by simpa using h
      subst this
      exact ⟨o, upd_same⟩
  · by_cases hj : j < s.length
    · rw [List.getElem?_append_left hj] at h1
      have h2' : w.ρ[j]? = some a := by rwa [List.getElem?_append_left (by rw [g.lr]; exact hj)] at h2
      have k := g.ce j c' a h1 h2'
      have ne : a ≠ p := fun e => g.notin hp (e ▸ List.mem_of_getElem? h2')
      exact k.up l (fun hn => hn) fun o ho => by rw [upd_ne ne]; exact ho
    · have hj2 := (List.getElem?_eq_some_iff.mp h1).1
      rw [List.length_append, List.length_singleton] at hj2
      have e : j = s.length := by omega
      subst e
      rw [List.getElem?_append_right (Nat.le_refl _), Nat.sub_self] at h1
      rw [← g.lr, List.getElem?_append_right (Nat.le_refl _), Nat.sub_self] at h2
      cases h1
      cases h2
      exact hc
theorem Ok.new_le {p : Addr} : w.le ⟨w.F, w.ρ ++ [p]⟩ := ⟨Ext.refl _, List.prefix_append _ _⟩
theorem Ok.new_at (g : Ok B w s H) {p : Addr} : VR B ⟨w.F, w.ρ ++ [p]⟩ (.ref p) (.r s.length) := ⟨p, by
  show (w.ρ ++ [p])[s.length]? = some p
  rw [← g.lr, List.getElem?_append_right (Nat.le_refl _), Nat.sub_self]
  rfl, rfl⟩
/-- an object changes -/
theorem Ok.chg (g : Ok B w s H) {j : Nat} {a : Addr} {o : HO} {c : Cell} (hj : w.ρ[j]? = some a) (hF : w.F a = none) (hc : CR B w (upd H a o) a c) : Ok B w (s.set j c) (upd H a o) := by
  refine ⟨fun b u q => ?_, by simp [g.lr], g.nd, fun b hb => ?_, fun k c' b h1 h2 => ?_⟩
  · have ne : b ≠ a := fun e => by subst e; rw [hF] at q; cases q
    rw [upd_ne ne]
    exact g.ext b u q
  · by_cases e : b = a
    · subst e; exact ⟨o, upd_same⟩
    · obtain ⟨u, hu⟩ := g.al b hb
      exact ⟨u, by rw [upd_ne e]; exact hu⟩
  · by_cases e : k = j
    · subst e
      have hk := (List.getElem?_eq_some_iff.mp hj).1
      rw [List.getElem?_set_self (by rw [← g.lr]; exact hk)] at h1
      cases h1
      have : b = a := Option.some.inj (h2.symm.trans hj)
      subst this
      exact hc
    · rw [List.getElem?_set_ne (Ne.symm e)] at h1
      have ne : b ≠ a := fun q => by
        subst q
        exact e ((List.getElem?_inj (List.getElem?_eq_some_iff.mp h2).1 g.nd).mp (h2.trans hj.symm))
      have kk := g.ce k c' b h1 h2
      exact kk.up (W.le.refl w) (fun hn => hn) fun o ho => by rw [upd_ne ne]; exact ho
/-- an object is no longer told of -/
theorem Ok.drop (g : Ok B w s H) (j : Nat) : Ok B w (s.set j .gone) H := by
  refine ⟨g.ext, by simp [g.lr], g.nd, g.al, fun k c b h1 h2 => ?_⟩
  by_cases e : k = j
  · subst e
    have hk := (List.getElem?_eq_some_iff.mp h1).1
    rw [List.length_set] at hk
    rw [List.getElem?_set_self hk] at h1
    cases h1
    exact .gone
  · rw [List.getElem?_set_ne (Ne.symm e)] at h1
    exact g.ce k c b h1 h2
/-- what an object of the store refers to lies below -/
def Cell.below (n : Nat) : Cell → Prop
  | .lst ds => ∀ j, D.r j ∈ ds → j < n
  | .dic kvs => ∀ k j, (k, D.r j) ∈ kvs → j < n
  | .dk kvs => ∀ k j, (k, D.r j) ∈ kvs → j < n
  | .dfz kvs => ∀ k j, (k, D.r j) ∈ kvs → j < n
  | .rng _ _ => True
  | .gone => True
theorem VR.cut {n : Nat} : ∀ {d : D}, VR B w v d → (∀ j, d = .r j → j < n) → VR B (w.take n) v d
  | .d x, h, _ => h
  | .r j, ⟨a, h1, h2⟩, hl => ⟨a, by show (w.ρ.take n)[j]? = _; rw [List.getElem?_take_of_lt (hl j rfl)]; exact h1, h2⟩
theorem VRs.cut {n : Nat} : ∀ {vs : List V} {ds : List D}, VRs B w vs ds → (∀ j, D.r j ∈ ds → j < n) → VRs B (w.take n) vs ds
  | [], [], _, _ => trivial
  | v :: vs, d :: ds, ⟨h1, h2⟩, h => ⟨h1.cut fun j e => h j (by rw [e]; simp), VRs.cut h2 fun j hj => h j (List.mem_cons_of_mem _ hj)⟩
  | [], _ :: _, h, _ => h.elim
  | _ :: _, [], h, _ => h.elim
theorem DR.cut {n : Nat} : ∀ {xs : List DEn} {kvs : List (PyData × D)}, DR B w xs kvs → (∀ k j, (k, D.r j) ∈ kvs → j < n) → DR B (w.take n) xs kvs
  | [], [], _, _ => trivial
  | e :: vs, d :: ds, ⟨⟨h1, h2, vv, h4, h5⟩, h6⟩, h => ⟨⟨h1, h2, vv, h4, h5.cut fun j q => h d.1 j (by rw [← q]; simp)⟩, DR.cut h6 fun k j hj => h k j (List.mem_cons_of_mem _ hj)⟩
  | [], _ :: _, h, _ => h.elim
  | _ :: _, [], h, _ => h.elim
theorem KR.cut {n : Nat} : ∀ {xs : List (Key × V)} {kvs : List (Key × D)}, KR B w xs kvs → (∀ k j, (k, D.r j) ∈ kvs → j < n) → KR B (w.take n) xs kvs
  | [], [], _, _ => trivial
  | e :: vs, d :: ds, ⟨⟨h1, h5⟩, h6⟩, h => ⟨⟨h1, h5.cut fun j q => h d.1 j (by rw [← q]; simp)⟩, KR.cut h6 fun k j hj => h k j (List.mem_cons_of_mem _ hj)⟩
  | [], _ :: _, h, _ => h.elim
  | _ :: _, [], h, _ => h.elim
theorem CR.cut {n : Nat} {a : Addr} {c : Cell} (h : CR B w H a c) (b : c.below n) : CR B (w.take n) H a c := by
  cases c with
  | lst ds => obtain ⟨h1, vs, h2, h3⟩ := h; exact ⟨h1, vs, h2, h3.cut b⟩
  | dic ds => obtain ⟨h1, vs, h2, h3⟩ := h; exact ⟨h1, vs, h2, h3.cut b⟩
  | dk ds => obtain ⟨h1, vs, h2, h3⟩ := h; exact ⟨h1, vs, h2, h3.cut b⟩
  | dfz ds => obtain ⟨o, xs, h2, h3⟩ := h; exact ⟨o, xs, h2, h3.cut b⟩
  | rng lo hi => exact h
  | gone => trivial
theorem VR.lt {j : Nat} (h : VR B w v (.r j)) : j < w.ρ.length := let ⟨_, h1, _⟩ := h; (List.getElem?_eq_some_iff.mp h1).1
theorem DR.below : ∀ {xs : List DEn} {kvs : List (PyData × D)}, DR B w xs kvs → ∀ k j, (k, D.r j) ∈ kvs → j < w.ρ.length
  | [], [], _, _, _, h => by simp at h
  | e :: vs, d :: ds, ⟨⟨h1, h2, vv, h4, h5⟩, h6⟩, k, j, h => by
    rcases List.mem_cons.mp h with h | h
    · subst h; exact h5.lt
    · exact DR.below h6 k j h
  | [], _ :: _, h, _, _, _ => h.elim
  | _ :: _, [], h, _, _, _ => h.elim
theorem KR.below : ∀ {xs : List (Key × V)} {kvs : List (Key × D)}, KR B w xs kvs → ∀ k j, (k, D.r j) ∈ kvs → j < w.ρ.length
  | [], [], _, _, _, h => by simp at h
  | e :: vs, d :: ds, ⟨⟨h1, h5⟩, h6⟩, k, j, h => by
    rcases List.mem_cons.mp h with h | h
    · subst h; exact h5.lt
    · exact KR.below h6 k j h
  | [], _ :: _, h, _, _, _ => h.elim
  | _ :: _, [], h, _, _, _ => h.elim
theorem CR.isBelow {a : Addr} {c : Cell} (h : CR B w H a c) : c.below w.ρ.length := by
  cases c with
  | lst ds => obtain ⟨h1, vs, h2, h3⟩ := h; exact h3.below
  | dic ds => obtain ⟨h1, vs, h2, h3⟩ := h; exact h3.below
  | dk ds => obtain ⟨h1, vs, h2, h3⟩ := h; exact h3.below
  | dfz ds => obtain ⟨o, xs, h2, h3⟩ := h; exact h3.below
  | rng lo hi => trivial
  | gone => trivial
/-- the store cut back -/
theorem Ok.cut (g : Ok B w s H) {n : Nat} (h : ∀ j c, j < n → s[j]? = some c → c.below n) : Ok B (w.take n) (s.take n) H := by
  refine ⟨g.ext, by simp [g.lr], g.nd.sublist (List.take_sublist _ _), fun a ha => g.al a (List.mem_of_mem_take ha), fun j c a h1 h2 => ?_⟩
  by_cases hj : j < n
  · rw [List.getElem?_take_of_lt hj] at h1
    have h2' : w.ρ[j]? = some a := by
      have : (w.ρ.take n)[j]? = some a := h2
      rwa [List.getElem?_take_of_lt hj] at this
    exact (g.ce j c a h1 h2').cut (h j c hj h1)
  · rw [List.getElem?_eq_none (by rw [List.length_take]; omega)] at h1
    cases h1
/-- a list of data becomes a datum -/
theorem Ok.freeze (g : Ok B w s H) {j : Nat} {a : Addr} {xs : List PyData} (hs : s[j]? = some (.lst (xs.map .d))) (ha : w.ρ[j]? = some a) :
    ∃ w', w.le w' ∧ Ok B w' (s.set j .gone) H ∧ Dp B.K w'.F (.ref a) (.list xs) := by
  obtain ⟨hF, vs, hH, hv⟩ := g.ce j _ a hs ha
  have l : w.le ⟨upd w.F a (.lst vs), w.ρ⟩ := ⟨Ext.up hF, List.prefix_rfl⟩
  refine ⟨_, l, ⟨fun b u q => ?_, by simp [g.lr], g.nd, g.al, fun k c b h1 h2 => ?_⟩, .lst (.of upd_same) (dpsUp l.F _ _ (VRs.data.mp hv))⟩
  · by_cases e : b = a
    · subst e
      have q' : upd w.F b (.lst vs) b = some u := q
      rw [upd_same] at q'
      cases q'
      exact hH
    · have q' : upd w.F a (.lst vs) b = some u := q
      rw [upd_ne e] at q'
      exact g.ext b u q'
  · by_cases e : k = j
    · subst e
      have hk := (List.getElem?_eq_some_iff.mp hs).1
      rw [List.getElem?_set_self hk] at h1
      cases h1
      exact .gone
    · rw [List.getElem?_set_ne (Ne.symm e)] at h1
      have ne : b ≠ a := fun q => by
        subst q
        exact e ((List.getElem?_inj (List.getElem?_eq_some_iff.mp h2).1 g.nd).mp (h2.trans ha.symm))
      have kk := g.ce k c b h1 h2
      refine kk.up l (fun hn => ?_) fun o ho => ho
      show upd w.F a _ b = none
      rw [upd_ne ne]; exact hn
theorem Sl.put (g : Sl B w e σ) (i : Nat) (hv : VR B w v d) : Sl B w (e.set i (some d)) (σ.set i (some v)) := by
  refine ⟨by simp [g.le], fun k d' h => ?_⟩
  by_cases hk : k = i
  · subst hk
    have hl := (List.getElem?_eq_some_iff.mp h).1
    rw [List.length_set] at hl
    rw [List.getElem?_set_self hl] at h
    cases h
    exact ⟨v, by rw [List.getElem?_set_self (by rw [← g.le]; exact hl)], hv⟩
  · rw [List.getElem?_set_ne (Ne.symm hk)] at h
    obtain ⟨u, h1, h2⟩ := g.sl k d' h
    exact ⟨u, by rw [List.getElem?_set_ne (Ne.symm hk)]; exact h1, h2⟩
/-- slots forgotten -/
theorem Sl.wk (g : Sl B w e σ) {e' : Lo} (hl : e'.length = e.length) (h : ∀ (i : Nat) (d : D), e'[i]? = some (some d) → e[i]? = some (some d)) : Sl B w e' σ :=
  ⟨hl.trans g.le, fun i d q => g.sl i d (h i d q)⟩
theorem Sl.cut (g : Sl B w e σ) {n : Nat} (h : ∀ (i j : Nat), e[i]? = some (some (D.r j)) → j < n) : Sl B (w.take n) e σ :=
  ⟨g.le, fun i d q => let ⟨v, h1, h2⟩ := g.sl i d q; ⟨v, h1, h2.cut fun j e => h i j (by rw [← e]; exact q)⟩⟩
end
end N

namespace Z
open PySem L2 PyProof.Rows
theorem tup_mul0 (l : Addr) (items : Array Value) (n : Nat) (dd : Option Addr) (sl : Array (Option Value)) (x : Int) (u : Tok) (c0 : (decide (x < -(2 ^ 63)) || decide (x ≥ 2 ^ 63)) = false) (c1 : (items.isEmpty || x == 1) = false) (c2 : (decide (x ≤ 0) || items.isEmpty) = true) :
    PySem.Meets (Builtin.«tuple.__mul__» ⟨[.ref l, .int x u], []⟩) (fun _ R s => s.heap.get? l = some { cls := .type "tuple", dict := dd, data := .seq items n, slots := sl } ∧
      R (.ok (.ret (Value.ref s.heap.objs.size))) { s with heap := s.heap.push { cls := Value.type "tuple", data := Data.seq #[] }, toks := s.toks }) :=
  PySem.Meets.of_wp fun prog w A R s h => by
    obtain ⟨hp, g, d, tk, os⟩ := s
    obtain ⟨hl, h⟩ := h
    have f1 := AutoSeq1.idx_int
    wp_walk using wpAny_loadPart' hl
    repeat (first
      | (refine wpAny_ite_false (decide_eq_false (by rw [c0]; exact Bool.false_ne_true)) ?_; wp_walk using wpAny_loadPart' hl)
      | (refine wpAny_ite_false (decide_eq_false (by rw [c1]; exact Bool.false_ne_true)) ?_; wp_walk using wpAny_loadPart' hl)
      | (refine wpAny_ite_true (decide_eq_true (by rw [c2])) ?_; wp_walk using wpAny_loadPart' hl))
    exact ⟨_, rfl, h⟩
section
variable {X : Cx}
def rRep0 (K : PySem.W.Frag) : R2 := fun x y H Q => ∃ l k xs, x = V.ref l ∧ y = V.int k ∧ SqT K H l xs ∧ xs ≠ [] ∧ k ≤ 0 ∧ -1000 ≤ k ∧ ∀ p, H p = none → Q (.ref p) (upd H p (.tup []))
theorem op_rep0 : OpR X (binaryOp .Mult) (rRep0 X.K) := by
  intro pins s σ H x y v u Q I rx ry h
  obtain ⟨l, k, xs, rfl, rfl, hT, hne, h1, h2, q⟩ := h
  cases rx
  obtain ⟨t, rfl⟩ := ry
  obtain ⟨its, r, ⟨⟨cls, dd, data, sl⟩, ho, hc, n, hd⟩, hs⟩ := I.tuple hT
  simp only at hc hd
  subst hc hd
  have hle : its.length = xs.length := r.length.symm
  have hi : its.toArray.isEmpty = false := by
    cases its with
    | nil => exact absurd (List.eq_nil_of_length_eq_zero hle.symm) hne
    | cons a b => rfl
  have c0 : (decide (k < -(2 ^ 63)) || decide (k ≥ 2 ^ 63)) = false := by
    rw [decide_eq_false (by omega), decide_eq_false (by omega)] <;> rfl
  have c1 : (its.toArray.isEmpty || k == 1) = false := by
    rw [hi, Bool.false_or]
    exact beq_eq_false_iff_ne.mpr (by omega)
  have c2 : (decide (k ≤ 0) || its.toArray.isEmpty) = true := by
    rw [decide_eq_true h1, Bool.true_or]
  refine wpAny_binaryOp_repeat_ref (T := "tuple") (U := "int") (by decide) ⟨_, ho, rfl⟩ (fun s' => typeIs_int s' k t) noFill_tuple_mul F.fills_int_mul F.slot_int_rmul repeat_tuple F.slot_int_index.lookup
    (call_meets F.slot_int_rmul (typeIs_int s k t) F.entry_int_rmul (F.args_int_rmul_2 _ _) (int_rmul_tuple k t l its.toArray n dd sl)
      ⟨ho, rfl, ⟨_, ho, rfl⟩, call_meets F.slot_tuple_mul ⟨_, ho, rfl⟩ F.entry_tuple_mul (F.args_tuple_mul_2 _ _) (tup_mul0 l its.toArray n dd sl k t c0 c1 c2) ⟨ho, ?_⟩⟩)
  refine ⟨.ref s.heap.objs.size, _, I.laid (t' := s.toks) (o := .tup []) (fun b ob q => Heap.get?_push_of_some _ q) (Nat.le_refl _) ?_, rfl, q _ (I.hok.fresh (Nat.le_refl _))⟩
  exact ⟨by simp, [], .nil, IsTup.new _ _⟩
end
end Z

namespace N
open PySem L2 PyProof.Rows
open Z (Ext dpUp dpsUp dpsLen dpsGet DxO KyD DEn)

abbrev ME := Lo → Sto → Option (D × Sto)
abbrev MT := Lo → Sto → Option (Bool × Sto)
abbrev MA := Lo → Sto → Option (List D × Sto)
abbrev MO := Lo → Sto → Option (Option Int × Sto)
abbrev ba (X : Cx) : Ba := ⟨X.prog, X.w, X.K⟩
def tE (B : Ba) (e : Lo) (s : Sto) (d : D) (s' : Sto) : TE := fun σ H Q => ∃ w, Ok B w s H ∧ Sl B w e σ ∧ ∀ v w' H', w.le w' → Ok B w' s' H' → VR B w' v d → Q v H'
def tT (B : Ba) (e : Lo) (s : Sto) (b : Bool) (s' : Sto) : TT := fun σ H Q => ∃ w, Ok B w s H ∧ Sl B w e σ ∧ ∀ w' H', w.le w' → Ok B w' s' H' → Q b H'
def tA (B : Ba) (e : Lo) (s : Sto) (ds : List D) (s' : Sto) : TA := fun σ H Q => ∃ w, Ok B w s H ∧ Sl B w e σ ∧ ∀ vs w' H', w.le w' → Ok B w' s' H' → VRs B w' vs ds → Q vs H'
def tO (B : Ba) (e : Lo) (s : Sto) (o : Option Int) (s' : Sto) : TO := fun σ H Q => ∃ w, Ok B w s H ∧ Sl B w e σ ∧ ∀ w' H', w.le w' → Ok B w' s' H' → Q o H'
def NE (X : Cx) (ex : Expr) (m : ME) : Prop := ∀ e s d s', m e s = some (d, s') → PE X ex (tE (ba X) e s d s')
def NT (X : Cx) (ex : Expr) (m : MT) : Prop := ∀ e s b s', m e s = some (b, s') → PT X ex (tT (ba X) e s b s')
def NW (X : Cx) (ex : Expr) (m : MT) : Prop := ∀ e s b s', m e s = some (b, s') → PW X ex (tT (ba X) e s b s')
def NA (X : Cx) (es : List Expr) (m : MA) : Prop := ∀ e s ds s', m e s = some (ds, s') → PA X es (tA (ba X) e s ds s')
def NO (X : Cx) (o : Option Expr) (m : MO) : Prop := ∀ e s i s', m e s = some (i, s') → PO X o (tO (ba X) e s i s')
section
variable {X : Cx} {ex a b c : Expr} {es : List Expr} {m ma mb mc : ME} {pos p : Pos}
theorem PE.imp {e : Expr} {t t' : TE} (h : PE X e t) (i : ∀ σ H Q, t' σ H Q → t σ H Q) : PE X e t' := Z.PE.imp h i
theorem PT.imp {e : Expr} {t t' : TT} (h : PT X e t) (i : ∀ σ H Q, t' σ H Q → t σ H Q) : PT X e t' := Z.PT.imp h i
theorem PW.imp {e : Expr} {t t' : TT} (h : PW X e t) (i : ∀ σ H Q, t' σ H Q → t σ H Q) : PW X e t' := Z.PW.imp h i
theorem PA.imp {t t' : TA} (h : PA X es t) (i : ∀ σ H Q, t' σ H Q → t σ H Q) : PA X es t' := Z.PA.imp h i
theorem NE.fam (h : NE X ex m) : PE X ex (fun σ H Q => ∃ e s d s', m e s = some (d, s') ∧ tE (ba X) e s d s' σ H Q) :=
  ⟨fun pins sh σ H Q I ⟨e, s, d, s', hm, q⟩ => (h e s d s' hm).run pins sh σ H Q I q⟩
theorem NT.fam {m : MT} (h : NT X ex m) : PT X ex (fun σ H Q => ∃ e s d s', m e s = some (d, s') ∧ tT (ba X) e s d s' σ H Q) :=
  ⟨fun pins sh σ H Q I ⟨e, s, d, s', hm, q⟩ => (h e s d s' hm).run pins sh σ H Q I q⟩
theorem NW.fam {m : MT} (h : NW X ex m) : PW X ex (fun σ H Q => ∃ e s d s', m e s = some (d, s') ∧ tT (ba X) e s d s' σ H Q) :=
  ⟨fun w pins sh σ H Q I ⟨e, s, d, s', hm, q⟩ => (h e s d s' hm).run w pins sh σ H Q I q⟩
theorem NA.fam {m : MA} (h : NA X es m) : PA X es (fun σ H Q => ∃ e s d s', m e s = some (d, s') ∧ tA (ba X) e s d s' σ H Q) :=
  ⟨fun pos pins sh σ H Q I ⟨e, s, d, s', hm, q⟩ => (h e s d s' hm).run pos pins sh σ H Q I q⟩

def eVar (i : Nat) : ME := fun e s => match e[i]? with
  | some (some d) => some (d, s)
  | _ => none
def eC (x : PyData) : ME := fun _ s => some (.d x, s)
theorem n_var (i : Nat) {x : Str} (hN : X.N[i]? = some x := by rfl) (hv : Vis X.env.scope x := by first | exact Or.inl rfl | exact Or.inr (Or.inl rfl) | exact Or.inr (Or.inr rfl))
    (hd : (x == ("__debug__" : Str)) = false := by decide) (hcd : (x == ("__classdict__" : Str)) = false := by decide) : NE X (.Name x pos) (eVar i) := fun e s d s' h => by
  unfold eVar at h
  split at h
  · rename_i d' hd'
    cases h
    refine PE.imp (pe_var hN hv hd hcd) fun σ H Q ⟨w, g, l, q⟩ => ?_
    obtain ⟨v, h1, h2⟩ := l.sl i d hd'
    exact ⟨v, h1, q v w H (W.le.refl w) g h2⟩
  · cases h
theorem flat_vr {B : Ba} {w : W} {v : V} {x : PyData} (f : Z.flat v x) : VR B w v (.d x) := Z.flatDp f
theorem n_int {i : Int} {j : Nat} : NE X (.Constant (.int i) j pos) (eC (.int i)) := fun e s d s' h => by
  cases h
  exact PE.imp pe_int fun σ H Q ⟨w, g, l, q⟩ => q _ w H (W.le.refl w) g (flat_vr (show Z.flat (.int i) (.int i) from rfl))
theorem n_bl {i : Bool} {j : Nat} : NE X (.Constant (.bool i) j pos) (eC (.bool i)) := fun e s d s' h => by
  cases h
  exact PE.imp pe_bl fun σ H Q ⟨w, g, l, q⟩ => q _ w H (W.le.refl w) g (flat_vr (show Z.flat (.bl i) (.bool i) from rfl))
theorem n_str {i : Str} {j : Nat} : NE X (.Constant (.str i) j pos) (eC (.str i)) := fun e s d s' h => by
  cases h
  exact PE.imp pe_str fun σ H Q ⟨w, g, l, q⟩ => q _ w H (W.le.refl w) g (flat_vr (show Z.flat (.str i) (.str i) from rfl))
theorem n_non {j : Nat} : NE X (.Constant .none j pos) (eC .none) := fun e s d s' h => by
  cases h
  exact PE.imp pe_non fun σ H Q ⟨w, g, l, q⟩ => q _ w H (W.le.refl w) g (flat_vr (show Z.flat .non .none from trivial))
def aNil : MA := fun _ s => some ([], s)
def aCons (m : ME) (ms : MA) : MA := fun e s => match m e s with
  | some (d, s1) => match ms e s1 with
    | some (ds, s2) => some (d :: ds, s2)
    | none => none
  | none => none
theorem n_nil : NA X [] aNil := fun e s d s' h => by
  cases h
  exact PA.imp pa_nil fun σ H Q ⟨w, g, l, q⟩ => q [] w H (W.le.refl w) g trivial
theorem n_cons {ms : MA} (h1 : NE X ex m) (h2 : NA X es ms) (hs : starEach (ex :: es) X.env = (false, eval ex X.env) :: starEach es X.env := by rfl) : NA X (ex :: es) (aCons m ms) := fun e s ds s' h => by
  unfold aCons at h
  split at h
  · rename_i d s1 e1
    split at h
    · rename_i ds' s2 e2
      cases h
      refine PA.imp (pa_cons (h1 _ _ _ _ e1) (h2 _ _ _ _ e2) hs) fun σ H Q ⟨w, g, l, q⟩ => ⟨w, g, l, fun v w1 H1 l1 g1 v1 => ⟨w1, g1, l.up l1, fun vs w2 H2 l2 g2 v2 => ?_⟩⟩
      exact q (v :: vs) w2 H2 (l1.trans l2) g2 ⟨v1.up l2, v2⟩
    · cases h
  · cases h

def data : List D → Option (List PyData)
  | [] => some []
  | .d x :: r => match data r with
    | some xs => some (x :: xs)
    | none => none
  | .r _ :: _ => none
theorem data_map (xs : List PyData) : data (xs.map .d) = some xs := by
  induction xs with
  | nil => rfl
  | cons x xs ih => rw [List.map_cons]; unfold data; rw [ih]
theorem data_eq : ∀ {ds : List D} {xs : List PyData}, data ds = some xs → ds = xs.map .d
  | [], xs, h => by cases h; rfl
  | .d x :: r, xs, h => by
    unfold data at h
    split at h
    · rename_i ys e
      cases h
      rw [data_eq e]; rfl
    · cases h
  | .r _ :: _, _, h => by cases h
abbrev lim : Nat := 1000000
theorem lim_lt : lim < sizeLine := by decide
/-- a new list: kept for good, or an object of the store -/
def mkL (own : Bool) (s : Sto) (ds : List D) : Option (D × Sto) :=
  if own then some (.r s.length, s ++ [.lst ds]) else match data ds with
    | some xs => some (.d (.list xs), s)
    | none => none
theorem mkL_ok {B : Ba} {w : W} {s s' : Sto} {H : Hp} {own : Bool} {ds : List D} {d : D} {vs : List V} {q : Addr} (h : mkL own s ds = some (d, s')) (g : Ok B w s H) (hq : H q = none) (hv : VRs B w vs ds) :
    ∃ w', w.le w' ∧ Ok B w' s' (upd H q (.lst vs)) ∧ VR B w' (.ref q) d := by
  unfold mkL at h
  split at h
  · cases h
    exact ⟨_, Ok.new_le, g.new hq ⟨ext_none g.ext hq, vs, upd_same, hv.up Ok.new_le⟩, g.new_at⟩
  · split at h
    · rename_i xs e
      cases h
      rw [data_eq e] at hv
      exact ⟨_, g.frz_le hq, g.frz hq, .lst (.of upd_same) (dpsUp (Ext.up (ext_none g.ext hq)) _ _ (VRs.data.mp hv))⟩
    · cases h
def eTup (ms : MA) : ME := fun e s => match ms e s with
  | some (ds, s1) => match data ds with
    | some xs => if xs.length ≤ lim then some (.d (.tuple xs), s1) else none
    | none => none
  | none => none
def eLst (own : Bool) (ms : MA) : ME := fun e s => match ms e s with
  | some (ds, s1) => if ds.length ≤ lim then mkL own s1 ds else none
  | none => none
theorem tup_ok {B : Ba} {w : W} {s : Sto} {H : Hp} {xs : List PyData} {vs : List V} {q : Addr} (g : Ok B w s H) (hq : H q = none) (hv : DpAll B.K w.F vs xs) :
    ∃ w', w.le w' ∧ Ok B w' s (upd H q (.tup vs)) ∧ VR B w' (.ref q) (.d (.tuple xs)) :=
  ⟨_, g.frz_le hq, g.frz hq, .tup (.of upd_same) (dpsUp (Ext.up (ext_none g.ext hq)) _ _ hv)⟩
theorem n_tup {k : Nat} {ms : MA} (h : NA X es ms) : NE X (.Tuple es k pos) (eTup ms) := fun e s d s' hm => by
  unfold eTup at hm
  split at hm
  · rename_i ds s1 e1
    split at hm
    · rename_i xs e2
      split at hm
      · rename_i hl
        cases hm
        refine PE.imp (pe_tup (h _ _ _ _ e1)) fun σ H Q ⟨w, g, l, q⟩ => ⟨w, g, l, fun vs w1 H1 l1 g1 v1 => ?_⟩
        rw [data_eq e2] at v1
        have hd := VRs.data.mp v1
        refine ⟨by rw [dpsLen hd]; exact Nat.le_trans hl (Nat.le_of_lt lim_lt), fun q' hq => ?_⟩
        obtain ⟨w2, l2, g2, v2⟩ := tup_ok g1 hq hd
        exact q _ w2 _ (l1.trans l2) g2 v2
      · cases hm
    · cases hm
  · cases hm
theorem n_lst {own : Bool} {ms : MA} (h : NA X es ms) : NE X (.List es pos) (eLst own ms) := fun e s d s' hm => by
  unfold eLst at hm
  split at hm
  · rename_i ds s1 e1
    split at hm
    · rename_i hl
      refine PE.imp (pe_lst (h _ _ _ _ e1)) fun σ H Q ⟨w, g, l, q⟩ => ⟨w, g, l, fun vs w1 H1 l1 g1 v1 => ?_⟩
      refine ⟨by rw [v1.len]; exact Nat.le_trans hl (Nat.le_of_lt lim_lt), fun q' hq => ?_⟩
      obtain ⟨w2, l2, g2, v2⟩ := mkL_ok hm g1 hq v1
      exact q _ w2 _ (l1.trans l2) g2 v2
    · cases hm
  · cases hm

def asL (s : Sto) : D → Option (List D)
  | .d (.list xs) => some (xs.map .d)
  | .r j => match s[j]? with
    | some (.lst ds) => some ds
    | _ => none
  | _ => none
def pd (s : Sto) : D → Option PyData
  | .d x => some x
  | .r j => match s[j]? with
    | some (.lst ds) => match data ds with
      | some xs => some (.list xs)
      | none => none
    | _ => none
section
variable {B : Ba} {w : W} {s : Sto} {H : Hp} {v : V} {d : D}
theorem asL_ok {ds : List D} (h : asL s d = some ds) (g : Ok B w s H) (hv : VR B w v d) : ∃ p vs, v = .ref p ∧ SqL B.K H p vs ∧ VRs B w vs ds := by
  unfold asL at h
  split at h
  · cases h
    cases hv with
    | lst hs ha => exact ⟨_, _, rfl, g.ext.l hs, VRs.data.mpr ha⟩
  · split at h
    · rename_i j ds' e
      cases h
      obtain ⟨a, h1, rfl⟩ := hv
      obtain ⟨_, vs, h2, h3⟩ := g.ce _ _ a e h1
      exact ⟨a, vs, rfl, .of h2, h3⟩
    · cases h
  · cases h
theorem pd_ok {x : PyData} (h : pd s d = some x) (g : Ok B w s H) (hv : VR B w v d) : Dp B.K H v x := by
  unfold pd at h
  split at h
  · cases h
    exact dpUp g.ext _ _ hv
  · split at h
    · rename_i j ds e
      split at h
      · rename_i xs e2
        cases h
        obtain ⟨a, h1, rfl⟩ := hv
        obtain ⟨_, vs, h2, h3⟩ := g.ce _ _ a e h1
        rw [data_eq e2] at h3
        exact .lst (.of h2) (dpsUp g.ext _ _ (VRs.data.mp h3))
      · cases h
    · cases h
theorem vr_int {i : Int} (h : VR B w v (.d (.int i))) : v = .int i := by cases h; rfl
theorem vr_bl {i : Bool} (h : VR B w v (.d (.bool i))) : v = .bl i := by cases h; rfl
theorem vr_str {i : Str} (h : VR B w v (.d (.str i))) : v = .str i := by cases h; rfl
theorem vr_non (h : VR B w v (.d .none)) : v = .non := by cases h; rfl
theorem vi {i : Int} : VR B w (.int i) (.d (.int i)) := flat_vr (show Z.flat (.int i) (.int i) from rfl)
theorem vb {i : Bool} : VR B w (.bl i) (.d (.bool i)) := flat_vr (show Z.flat (.bl i) (.bool i) from rfl)
theorem vs' {i : Str} : VR B w (.str i) (.d (.str i)) := flat_vr (show Z.flat (.str i) (.str i) from rfl)
theorem vn : VR B w .non (.d .none) := flat_vr (show Z.flat .non .none from trivial)
end

def BiN (B : Ba) (q : R2) (s : Sto) (a b z : D) (s' : Sto) : Prop := ∀ u v w H Q, Ok B w s H → VR B w u a → VR B w v b → (∀ x w' H', w.le w' → Ok B w' s' H' → VR B w' x z → Q x H') → q u v H Q
abbrev FB := Sto → D → D → Option (D × Sto)
def OpS (X : Cx) (op : Operator) (f : FB) : Prop := ∀ s a b z s', f s a b = some (z, s') → ∃ q, OpR X (binaryOp op) q ∧ BiN (ba X) q s a b z s'
def eBin (f : FB) (ma mb : ME) : ME := fun e s => match ma e s with
  | some (a, s1) => match mb e s1 with
    | some (b, s2) => f s2 a b
    | none => none
  | none => none
theorem bin_cases {f : FB} {e : Lo} {s s' : Sto} {z : D} (h : eBin f ma mb e s = some (z, s')) : ∃ a s1 b s2, ma e s = some (a, s1) ∧ mb e s1 = some (b, s2) ∧ f s2 a b = some (z, s') := by
  unfold eBin at h
  split at h
  · rename_i a s1 e1
    split at h
    · rename_i b s2 e2
      exact ⟨a, s1, b, s2, e1, e2, h⟩
    · cases h
  · cases h
theorem bi_run {q : R2} {e : Lo} {s s1 s2 s3 : Sto} {x y z : D} (hq : BiN (ba X) q s2 x y z s3) : ∀ σ H Q, tE (ba X) e s z s3 σ H Q → tOp q (tE (ba X) e s x s1) (tE (ba X) e s1 y s2) σ H Q := fun σ H Q ⟨w, g, l, k⟩ =>
  ⟨w, g, l, fun u w1 H1 l1 g1 v1 => ⟨w1, g1, l.up l1, fun v w2 H2 l2 g2 v2 => hq u v w2 H2 Q g2 (v1.up l2) v2 fun x w3 H3 l3 g3 v3 => k x w3 H3 ((l1.trans l2).trans l3) g3 v3⟩⟩
theorem n_bin {op : Operator} {f : FB} (ho : OpS X op f) (ha : NE X a ma) (hb : NE X b mb) : NE X (.BinOp a op b pos) (eBin f ma mb) := fun e s z s' h => by
  obtain ⟨x, s1, y, s2, e1, e2, e3⟩ := bin_cases h
  obtain ⟨q, hq, hB⟩ := ho _ _ _ _ _ e3
  exact PE.imp (pe_op hq (ha _ _ _ _ e1) (hb _ _ _ _ e2)) (bi_run hB)
theorem BiN.int {B : Ba} {f : Int → Int → V} {i j : Int} {z : PyData} {s : Sto} (hz : Z.flat (f i j) z) : BiN B (rI0 f) s (.d (.int i)) (.d (.int j)) (.d z) s := fun u v w H Q g h1 h2 k => by
  cases vr_int h1
  cases vr_int h2
  exact ⟨i, j, rfl, rfl, k _ w H (W.le.refl w) g (flat_vr hz)⟩
theorem BiN.intC {B : Ba} {C : Int → Int → Prop} {f : Int → Int → V} {i j : Int} {z : PyData} {s : Sto} (hc : C i j) (hz : Z.flat (f i j) z) : BiN B (rI C f) s (.d (.int i)) (.d (.int j)) (.d z) s := fun u v w H Q g h1 h2 k => by
  cases vr_int h1
  cases vr_int h2
  exact ⟨i, j, rfl, rfl, hc, k _ w H (W.le.refl w) g (flat_vr hz)⟩
def i2 (f : Int → Int → Option Int) : FB := fun s a b => match a, b with
  | .d (.int i), .d (.int j) => match f i j with
    | some k => some (.d (.int k), s)
    | none => none
  | _, _ => none
theorem i2_cases {f : Int → Int → Option Int} {s s' : Sto} {a b z : D} (h : i2 f s a b = some (z, s')) : ∃ i j k, a = .d (.int i) ∧ b = .d (.int j) ∧ f i j = some k ∧ z = .d (.int k) ∧ s' = s := by
  unfold i2 at h
  split at h
  · rename_i i j
    split at h
    · rename_i k e
      cases h
      exact ⟨i, j, k, rfl, rfl, e, rfl, rfl⟩
    · cases h
  · cases h
def oSub : FB := i2 fun i j => some (i - j)
def oXor : FB := i2 fun i j => some (Builtin.bitXor i j)
def oDiv : FB := i2 fun i j => if 0 < j ∧ j.natAbs.log2 < 9000 then some (i / j) else none
def oMod : FB := i2 fun i j => if 0 < j then some (i % j) else none
def oPow : FB := i2 fun i j => if 0 ≤ j ∧ j ≤ 1000000 ∧ i.natAbs < 2 ^ 64 then some (i ^ j.toNat) else none
theorem op0 {op : Operator} {f : Int → Int → Int} (h : OpR X (binaryOp op) (rI0 fun i j => .int (f i j))) : OpS X op (i2 fun i j => some (f i j)) := fun s a b z s' e => by
  obtain ⟨i, j, k, rfl, rfl, e1, rfl, rfl⟩ := i2_cases e
  cases e1
  exact ⟨_, h, BiN.int (show Z.flat (.int _) (.int _) from rfl)⟩
theorem opC {op : Operator} {f : Int → Int → Int} {C : Int → Int → Prop} {c : Int → Int → Prop} [∀ i j, Decidable (c i j)] (h : OpR X (binaryOp op) (rI C fun i j => .int (f i j))) (hc : ∀ i j, c i j → C i j) : OpS X op (i2 fun i j => if c i j then some (f i j) else none) := fun s a b z s' e => by
  obtain ⟨i, j, k, rfl, rfl, e1, rfl, rfl⟩ := i2_cases e
  split at e1
  · cases e1
    exact ⟨_, h, BiN.intC (hc i j ‹_›) (show Z.flat (.int _) (.int _) from rfl)⟩
  · cases e1
theorem o_sub : OpS X .Sub oSub := op0 op_sub
theorem o_div : OpS X .FloorDiv oDiv := opC op_fdivW fun i j h => h
theorem o_mod : OpS X .Mod oMod := opC op_mod fun i j h => h
theorem o_pow : OpS X .Pow oPow := opC op_pow fun i j h => h
/-- + : numbers, texts, tuples, lists -/
def oAdd (own : Bool) : FB := fun s a b => match a, b with
  | .d (.int i), .d (.int j) => some (.d (.int (i + j)), s)
  | .d (.tuple xs), .d (.tuple ys) => if xs.length + ys.length ≤ lim then some (.d (.tuple (xs ++ ys)), s) else none
  | .d (.str x), .d (.str y) => if x.length + y.length ≤ lim then some (.d (.str (x ++ y)), s) else none
  | a, b => match asL s a with
    | some ds => match asL s b with
      | some es => if ds.length + es.length ≤ lim then mkL own s (ds ++ es) else none
      | none => none
    | none => none
theorem dp_tup {K : PySem.W.Frag} {F : Hp} {v : V} {xs : List PyData} (h : Dp K F v (.tuple xs)) : ∃ a vs, v = .ref a ∧ SqT K F a vs ∧ DpAll K F vs xs := by
  cases h with
  | tup h1 h2 => exact ⟨_, _, rfl, h1, h2⟩
theorem o_add {own : Bool} : OpS X .Add (oAdd own) := fun s a b z s' e => by
  unfold oAdd at e
  split at e
  · cases e
    exact ⟨_, op_add, BiN.int (show Z.flat (.int _) (.int _) from rfl)⟩
  · rename_i xs ys
    split at e
    · rename_i hl
      cases e
      refine ⟨_, op_catA, fun u v w H Q g h1 h2 k => ?_⟩
      obtain ⟨a, us, rfl, t1, d1⟩ := dp_tup h1
      obtain ⟨b, vs, rfl, t2, d2⟩ := dp_tup h2
      refine ⟨a, b, us, vs, rfl, rfl, g.ext.t t1, g.ext.t t2, by rw [dpsLen d1, dpsLen d2]; exact Nat.le_trans hl (Nat.le_of_lt lim_lt), fun e => ?_, fun _ e => ?_, fun _ _ p hp => ?_⟩
      · subst e
        cases d1
        exact k _ w H (W.le.refl w) g h2
      · subst e
        cases d2
        exact k _ w H (W.le.refl w) g (by rw [List.append_nil]; exact h1)
      · obtain ⟨w', l, g', v'⟩ := tup_ok g hp (Z.dpsApp d1 d2)
        exact k _ w' _ l g' v'
    · cases e
  · rename_i x y
    split at e
    · rename_i hl
      cases e
      refine ⟨_, op_add_str, fun u v w H Q g h1 h2 k => ?_⟩
      cases vr_str h1
      cases vr_str h2
      exact ⟨x, y, rfl, rfl, Nat.le_trans hl (Nat.le_of_lt lim_lt), k _ w H (W.le.refl w) g vs'⟩
    · cases e
  · split at e
    · rename_i ds e1
      split at e
      · rename_i es e2
        split at e
        · rename_i hl
          refine ⟨_, Z.op_catQ, fun u v w H Q g h1 h2 k => ?_⟩
          obtain ⟨p1, us, rfl, q1, r1⟩ := asL_ok e1 g h1
          obtain ⟨p2, vs, rfl, q2, r2⟩ := asL_ok e2 g h2
          refine ⟨p1, p2, us, vs, rfl, rfl, q1, q2, by rw [r1.len, r2.len]; exact Nat.le_trans hl (Nat.le_of_lt lim_lt), fun p hp => ?_⟩
          obtain ⟨w', l, g', v'⟩ := mkL_ok e g hp (r1.app r2)
          exact k _ w' _ l g' v'
        · cases e
      · cases e
    · cases e
theorem flat_rep {α β : Type} (R : List α → List β → Prop) (h0 : R [] []) (hA : ∀ {a b c d}, R a c → R b d → R (a ++ b) (c ++ d)) {xs : List α} {ys : List β} (h : R xs ys) : ∀ n : Nat, R (List.replicate n xs).flatten (List.replicate n ys).flatten
  | 0 => h0
  | n + 1 => by
    rw [List.replicate_succ, List.replicate_succ, List.flatten_cons, List.flatten_cons]
    exact hA h (flat_rep R h0 hA h n)
/-- * : numbers, a tuple some times -/
def oMul : FB := fun s a b => match a, b with
  | .d (.int i), .d (.int j) => if ((-(2 ^ 64) < i ∧ i < 2 ^ 64) ∨ (-(2 ^ 64) < j ∧ j < 2 ^ 64)) ∨ i.natAbs.log2 + j.natAbs.log2 < 1000000 then some (.d (.int (i * j)), s) else none
  | .d (.tuple xs), .d (.int k) => if xs ≠ [] ∧ 1 ≤ k ∧ k ≤ 1000 ∧ xs.length ≤ 1000 then some (.d (.tuple (List.replicate k.toNat xs).flatten), s) else if xs ≠ [] ∧ k ≤ 0 ∧ -1000 ≤ k then some (.d (.tuple []), s) else none
  | _, _ => none
theorem o_mul : OpS X .Mult oMul := fun s a b z s' e => by
  unfold oMul at e
  split at e
  · split at e
    · rename_i hc
      cases e
      rcases hc with hc | hc
      · exact ⟨_, op_mul, BiN.intC hc (show Z.flat (.int _) (.int _) from rfl)⟩
      · exact ⟨_, op_mulW, BiN.intC hc (show Z.flat (.int _) (.int _) from rfl)⟩
    · cases e
  · rename_i xs k'
    split at e
    · rename_i hl
      cases e
      obtain ⟨h1, h2, h3, h4⟩ := hl
      refine ⟨_, Z.op_repQ, fun u v w H Q g q1 q2 k => ?_⟩
      obtain ⟨a, us, rfl, t1, d1⟩ := dp_tup q1
      cases vr_int q2
      refine ⟨a, k', us, rfl, rfl, g.ext.t t1, fun e => h1 (by subst e; cases d1; rfl), h2, h3, by rw [dpsLen d1]; exact h4, fun e => ?_, fun _ p hp => ?_⟩
      · subst e
        refine k _ w H (W.le.refl w) g ?_
        show Dp _ _ _ (.tuple (List.replicate 1 xs).flatten)
        rw [List.replicate_succ, List.replicate_zero, List.flatten_cons, List.flatten_nil, List.append_nil]
        exact q1
      · obtain ⟨w', l, g', v'⟩ := tup_ok g hp (flat_rep (fun vs xs => DpAll _ w.F vs xs) .nil (fun a b => Z.dpsApp a b) d1 k'.toNat)
        exact k _ w' _ l g' v'
    · split at e
      · rename_i hl
        cases e
        obtain ⟨h1, h2, h3⟩ := hl
        refine ⟨_, Z.op_rep0, fun u v w H Q g q1 q2 k => ?_⟩
        obtain ⟨a, us, rfl, t1, d1⟩ := dp_tup q1
        cases vr_int q2
        refine ⟨a, k', us, rfl, rfl, g.ext.t t1, fun e => h1 (by subst e; cases d1; rfl), h2, h3, fun p hp => ?_⟩
        obtain ⟨w', l, g', v'⟩ := tup_ok (xs := []) (vs := []) g hp .nil
        exact k _ w' _ l g' v'
      · cases e
  · cases e
def eNeg (m : ME) : ME := fun e s => match m e s with
  | some (.d (.int i), s1) => some (.d (.int (-i)), s1)
  | _ => none
theorem n_neg (h : NE X a m) : NE X (.UnaryOp .USub a pos) (eNeg m) := fun e s d s' hm => by
  unfold eNeg at hm
  split at hm
  · rename_i i s1 e1
    cases hm
    refine PE.imp (pe_un un_neg (h _ _ _ _ e1)) fun σ H Q ⟨w, g, l, q⟩ => ⟨w, g, l, fun v w1 H1 l1 g1 v1 => ?_⟩
    cases vr_int v1
    exact ⟨i, rfl, q _ w1 H1 l1 g1 vi⟩
  · cases hm

abbrev FC := Sto → D → D → Option Bool
def CmpS (X : Cx) (op : CmpOp) (f : FC) : Prop := ∀ s a b k, f s a b = some k → ∃ q, OpR X (compareOp op) q ∧ BiN (ba X) q s a b (.d (.bool k)) s
def eCmp (f : FC) : ME → ME → ME := eBin fun s a b => match f s a b with
  | some k => some (.d (.bool k), s)
  | none => none
def tCmp (f : FC) (ma mb : ME) : MT := fun e s => match ma e s with
  | some (a, s1) => match mb e s1 with
    | some (b, s2) => match f s2 a b with
      | some k => some (k, s2)
      | none => none
    | none => none
  | none => none
theorem n_cmp {op : CmpOp} {f : FC} (ho : CmpS X op f) (ha : NE X a ma) (hb : NE X b mb) (hm : behindInMarks op b = false := by first | exact nomark _ | rfl) : NE X (.Compare a [op] [b] pos) (eCmp f ma mb) := fun e s z s' h => by
  obtain ⟨x, s1, y, s2, e1, e2, e3⟩ := bin_cases h
  split at e3
  · rename_i k ek
    cases e3
    obtain ⟨q, hq, hB⟩ := ho _ _ _ _ ek
    exact PE.imp (pe_cmpR hq (ha _ _ _ _ e1) (hb _ _ _ _ e2) hm) (bi_run hB)
  · cases e3
theorem nt_cmp {op : CmpOp} {f : FC} (ho : CmpS X op f) (ha : NE X a ma) (hb : NE X b mb) (hm : behindInMarks op b = false := by first | exact nomark _ | rfl) : NT X (.Compare a [op] [b] pos) (tCmp f ma mb) := fun e s k s' h => by
  unfold tCmp at h
  split at h
  · rename_i x s1 e1
    split at h
    · rename_i y s2 e2
      split at h
      · rename_i k' ek
        cases h
        obtain ⟨q, hq, hB⟩ := ho _ _ _ _ ek
        refine PT.imp (pt_cmpR hq (ha _ _ _ _ e1) (hb _ _ _ _ e2) hm) fun σ H Q ⟨w, g, l, q'⟩ => ?_
        refine bi_run hB σ H _ ⟨w, g, l, fun v w' H' l' g' v' => ?_⟩
        exact ⟨k, vr_bl v', q' w' H' l' g'⟩
      · cases h
    · cases h
  · cases h
def c2 (f : Int → Int → Bool) : FC := fun _ a b => match a, b with
  | .d (.int i), .d (.int j) => some (f i j)
  | _, _ => none
def cLt : FC := c2 fun i j => decide (i < j)
def cLe : FC := c2 fun i j => decide (i ≤ j)
def cGt : FC := c2 fun i j => decide (j < i)
def cGe : FC := c2 fun i j => decide (j ≤ i)
theorem c2_ok {op : CmpOp} {f : Int → Int → Bool} (h : OpR X (compareOp op) (rI0 fun i j => .bl (f i j))) : CmpS X op (c2 f) := fun s a b k e => by
  unfold c2 at e
  split at e
  · cases e
    exact ⟨_, h, BiN.int (show Z.flat (.bl _) (.bool _) from rfl)⟩
  · cases e
theorem c_lt : CmpS X .Lt cLt := c2_ok op_lt
theorem c_le : CmpS X .LtE cLe := c2_ok op_le
theorem c_gt : CmpS X .Gt cGt := c2_ok op_gt
theorem c_ge : CmpS X .GtE cGe := c2_ok op_ge
/-- == of any data -/
def cEqv (s : Sto) (a b : D) : Option Bool := match a, b with
  | .d (.int i), .d (.int j) => some (decide (i = j))
  | a, b => match pd s a with
    | some x => match pd s b with
      | some y => if x.plain = true ∧ y.plain = true ∧ min x.depth y.depth ≤ 60 then some (PyData.eqv x y) else none
      | none => none
    | none => none
def cEq : FC := cEqv
def cNe : FC := fun s a b => match cEqv s a b with
  | some k => some (!k)
  | none => none
theorem eqv_int (i j : Int) : PyData.eqv (.int i) (.int j) = decide (i = j) := by
  simp only [PyData.eqv]
  rw [Bool.eq_iff_iff]
  simp
theorem eqv_cases {s : Sto} {a b : D} {k : Bool} (h : cEqv s a b = some k) : ∃ x y, pd s a = some x ∧ pd s b = some y ∧ x.plain = true ∧ y.plain = true ∧ min x.depth y.depth ≤ 60 ∧ k = PyData.eqv x y := by
  unfold cEqv at h
  split at h
  · rename_i i j
    cases h
    exact ⟨.int i, .int j, rfl, rfl, rfl, rfl, by simp [PyData.depth], (eqv_int i j).symm⟩
  · split at h
    · rename_i x e1
      split at h
      · rename_i y e2
        split at h
        · rename_i hc
          cases h
          exact ⟨x, y, e1, e2, hc.1, hc.2.1, hc.2.2, rfl⟩
        · cases h
      · cases h
    · cases h
theorem c_eq (hu : X.A.units + 64 < cLine) : CmpS X .Eq cEq := fun s a b k e => by
  obtain ⟨x, y, e1, e2, p1, p2, hd, rfl⟩ := eqv_cases e
  exact ⟨_, Z.op_eqZ, fun u v w H Q g h1 h2 q => ⟨x, y, pd_ok e1 g h1, pd_ok e2 g h2, p1, p2, by show X.A.units + _ < _; omega, q _ w H (W.le.refl w) g vb⟩⟩
theorem c_ne (hu : X.A.units + 64 < cLine) : CmpS X .NotEq cNe := fun s a b k e => by
  unfold cNe at e
  split at e
  · rename_i k' e'
    cases e
    obtain ⟨x, y, e1, e2, p1, p2, hd, rfl⟩ := eqv_cases e'
    exact ⟨_, Z.op_neZ, fun u v w H Q g h1 h2 q => ⟨x, y, pd_ok e1 g h1, pd_ok e2 g h2, p1, p2, by show X.A.units + _ < _; omega, q _ w H (W.le.refl w) g vb⟩⟩
  · cases e
/-- is None -/
def isNone : D → Bool
  | .d .none => true
  | _ => false
def cIsN (neg : Bool) : FC := fun s a b => match b with
  | .d .none => some (if neg then !isNone a else isNone a)
  | _ => none
theorem isNone_ok {B : Ba} {w : W} {v : V} {a : D} (h : VR B w v a) : isNone a = decide (v = .non) := by
  cases a with
  | r j => obtain ⟨p, _, rfl⟩ := h; rfl
  | d x => cases h <;> rfl
theorem c_is : CmpS X .Is (cIsN false) := fun s a b k e => by
  unfold cIsN at e
  split at e
  · cases e
    refine ⟨_, op_isN, fun u v w H Q g h1 h2 q => ?_⟩
    cases vr_non h2
    exact ⟨rfl, q _ w H (W.le.refl w) g (by rw [isNone_ok h1]; exact vb)⟩
  · cases e
theorem c_isnot : CmpS X .IsNot (cIsN true) := fun s a b k e => by
  unfold cIsN at e
  split at e
  · cases e
    refine ⟨_, op_notN, fun u v w H Q g h1 h2 q => ?_⟩
    cases vr_non h2
    exact ⟨rfl, q _ w H (W.le.refl w) g (by rw [isNone_ok h1]; exact vb)⟩
  · cases e
end
end N

namespace N
open PySem L2 PyProof.Rows
open Z (Ext dpUp dpsUp dpsLen dpsGet DxO KyD DEn Cl cut)
section
variable {X : Cx} {ex a b c : Expr} {es : List Expr} {m ma mb mc : ME} {ms : MA} {mt mu : MT} {pos p : Pos} {f : FB}

def truD (s : Sto) : D → Option Bool
  | .d .none => some false
  | .d (.bool b) => some b
  | .d (.int i) => some (i != 0)
  | .d (.str y) => if y.length ≤ lim then some ((y.length : Int) != 0) else none
  | .d (.tuple xs) => some (!xs.isEmpty)
  | .d (.list xs) => some (!xs.isEmpty)
  | .d (.dict _) => none
  | .r j => match s[j]? with
    | some (.lst ds) => some (!ds.isEmpty)
    | some (.dk kvs) => some (!kvs.isEmpty)
    | _ => none
theorem len_empty {α β : Type} {l : List α} {m : List β} (h : l.length = m.length) : l.isEmpty = m.isEmpty := Z.empty_len h
theorem KR.len {B : Ba} {w : W} : ∀ {xs : List (Key × V)} {kvs : List (Key × D)}, KR B w xs kvs → xs.length = kvs.length
  | [], [], _ => rfl
  | v :: vs, d :: ds, ⟨h1, h2⟩ => by simp [KR.len h2]
  | [], _ :: _, h => h.elim
  | _ :: _, [], h => h.elim
theorem tru_ok {B : Ba} {w : W} {s : Sto} {H : Hp} {v : V} {d : D} {k : Bool} (h : truD s d = some k) (g : Ok B w s H) (hv : VR B w v d) : TruV B.K v H k := by
  cases d with
  | d x =>
    cases hv with
    | non => cases h; rfl
    | bl b => cases h; rfl
    | int i => cases h; rfl
    | str y =>
      have h : (if y.length ≤ lim then some ((y.length : Int) != 0) else none) = some k := h
      split at h
      · rename_i hl
        cases h
        exact ⟨Nat.le_trans hl (Nat.le_of_lt lim_lt), rfl⟩
      · cases h
    | lst hs ha => cases h; exact .inl ⟨_, g.ext.l hs, by rw [len_empty (dpsLen ha)]⟩
    | tup hs ha => cases h; exact .inr (.inl ⟨_, g.ext.t hs, by rw [len_empty (dpsLen ha)]⟩)
  | r j =>
    obtain ⟨q, h1, rfl⟩ := hv
    have h : (match s[j]? with
      | some (.lst ds) => some (!ds.isEmpty)
      | some (.dk kvs) => some (!kvs.isEmpty)
      | _ => none) = some k := h
    split at h
    · rename_i ds e
      cases h
      obtain ⟨_, vs, h2, h3⟩ := g.ce _ _ q e h1
      exact .inl ⟨_, .of h2, by rw [len_empty h3.len]⟩
    · rename_i ds e
      cases h
      obtain ⟨_, vs, h2, h3⟩ := g.ce _ _ q e h1
      exact .inr (.inr ⟨_, h2, by rw [len_empty h3.len]⟩)
    · cases h
def tVal (m : ME) : MT := fun e s => match m e s with
  | some (d, s1) => match truD s1 d with
    | some k => some (k, s1)
    | none => none
  | none => none
theorem nt_val (h : NE X ex m) (he : ∀ whole, isTrue ex X.env whole = (do let v ← whole; standAt ex.pos; holding [v] (truthy v)) := by intro _; rfl) : NT X ex (tVal m) := fun e s k s' hm => by
  unfold tVal at hm
  split at hm
  · rename_i d s1 e1
    split at hm
    · rename_i k' e2
      cases hm
      exact PT.imp (pt_truth (h _ _ _ _ e1) he) fun σ H Q ⟨w, g, l, q⟩ => ⟨w, g, l, fun v w1 H1 l1 g1 v1 => ⟨k, tru_ok e2 g1 v1, q w1 H1 l1 g1⟩⟩
    · cases hm
  · cases hm
def tNot (mt : MT) : MT := fun e s => match mt e s with
  | some (k, s1) => some (!k, s1)
  | none => none
theorem nt_not (h : NT X a mt) : NT X (.UnaryOp .Not a pos) (tNot mt) := fun e s k s' hm => by
  unfold tNot at hm
  split at hm
  · rename_i k' s1 e1
    cases hm
    exact PT.imp (pt_not (h _ _ _ _ e1)) fun σ H Q ⟨w, g, l, q⟩ => ⟨w, g, l, fun w1 H1 l1 g1 => q w1 H1 l1 g1⟩
  · cases hm
def tAnd (mt mu : MT) : MT := fun e s => match mt e s with
  | some (true, s1) => mu e s1
  | some (false, s1) => some (false, s1)
  | none => none
def tOr (mt mu : MT) : MT := fun e s => match mt e s with
  | some (false, s1) => mu e s1
  | some (true, s1) => some (true, s1)
  | none => none
theorem nw_and1 (h : NT X a mt) : NW X (.BoolOp .And [a] pos) mt := fun e s k s' hm => pw_and1 (h _ _ _ _ hm)
theorem nw_or1 (h : NT X a mt) : NW X (.BoolOp .Or [a] pos) mt := fun e s k s' hm => pw_or1 (h _ _ _ _ hm)
theorem nw_and (h1 : NT X a mt) (h2 : NW X (.BoolOp .And (b :: es) pos) mu) : NW X (.BoolOp .And (a :: b :: es) pos) (tAnd mt mu) := fun e s k s' hm => by
  unfold tAnd at hm
  split at hm
  · rename_i s1 e1
    exact PW.imp (pw_and (h1 _ _ _ _ e1) (h2 _ _ _ _ hm)) fun σ H Q ⟨w, g, l, q⟩ => ⟨w, g, l, fun w1 H1 l1 g1 => ⟨w1, g1, l.up l1, fun w2 H2 l2 g2 => q w2 H2 (l1.trans l2) g2⟩⟩
  · rename_i s1 e1
    cases hm
    exact PW.imp (pw_and (h1 _ _ _ _ e1) h2.fam) fun σ H Q ⟨w, g, l, q⟩ => ⟨w, g, l, fun w1 H1 l1 g1 => q w1 H1 l1 g1⟩
  · cases hm
theorem nw_or (h1 : NT X a mt) (h2 : NW X (.BoolOp .Or (b :: es) pos) mu) : NW X (.BoolOp .Or (a :: b :: es) pos) (tOr mt mu) := fun e s k s' hm => by
  unfold tOr at hm
  split at hm
  · rename_i s1 e1
    exact PW.imp (pw_or (h1 _ _ _ _ e1) (h2 _ _ _ _ hm)) fun σ H Q ⟨w, g, l, q⟩ => ⟨w, g, l, fun w1 H1 l1 g1 => ⟨w1, g1, l.up l1, fun w2 H2 l2 g2 => q w2 H2 (l1.trans l2) g2⟩⟩
  · rename_i s1 e1
    cases hm
    exact PW.imp (pw_or (h1 _ _ _ _ e1) h2.fam) fun σ H Q ⟨w, g, l, q⟩ => ⟨w, g, l, fun w1 H1 l1 g1 => q w1 H1 l1 g1⟩
  · cases hm
theorem nt_bo {op : BoolOp} (h : NW X (.BoolOp op es pos) mt) : NT X (.BoolOp op es pos) mt := fun e s k s' hm => PW.pt (h _ _ _ _ hm)

theorem n_one {op : BoolOp} (h : NE X a m) : NE X (.BoolOp op [a] pos) m := fun e s d s' hm => pe_one (h _ _ _ _ hm)
def eAnd (ma mb : ME) : ME := fun e s => match ma e s with
  | some (d, s1) => match truD s1 d with
    | some true => mb e s1
    | some false => some (d, s1)
    | none => none
  | none => none
def eOr (ma mb : ME) : ME := fun e s => match ma e s with
  | some (d, s1) => match truD s1 d with
    | some false => mb e s1
    | some true => some (d, s1)
    | none => none
  | none => none
theorem n_and (h1 : NE X a ma) (h2 : NE X (.BoolOp .And (b :: es) pos) mb) : NE X (.BoolOp .And (a :: b :: es) pos) (eAnd ma mb) := fun e s d s' hm => by
  unfold eAnd at hm
  split at hm
  · rename_i d1 s1 e1
    split at hm
    · rename_i e2
      refine PE.imp (pe_andT (h1 _ _ _ _ e1) (h2 _ _ _ _ hm)) fun σ H Q ⟨w, g, l, q⟩ => ⟨w, g, l, fun v w1 H1 l1 g1 v1 => ?_⟩
      exact ⟨true, tru_ok e2 g1 v1, ⟨w1, g1, l.up l1, fun v w2 H2 l2 g2 v2 => q v w2 H2 (l1.trans l2) g2 v2⟩⟩
    · rename_i e2
      cases hm
      refine PE.imp (pe_andT (h1 _ _ _ _ e1) h2.fam) fun σ H Q ⟨w, g, l, q⟩ => ⟨w, g, l, fun v w1 H1 l1 g1 v1 => ?_⟩
      exact ⟨false, tru_ok e2 g1 v1, q v w1 H1 l1 g1 v1⟩
    · cases hm
  · cases hm
theorem n_or (h1 : NE X a ma) (h2 : NE X (.BoolOp .Or (b :: es) pos) mb) : NE X (.BoolOp .Or (a :: b :: es) pos) (eOr ma mb) := fun e s d s' hm => by
  unfold eOr at hm
  split at hm
  · rename_i d1 s1 e1
    split at hm
    · rename_i e2
      refine PE.imp (pe_orT (h1 _ _ _ _ e1) (h2 _ _ _ _ hm)) fun σ H Q ⟨w, g, l, q⟩ => ⟨w, g, l, fun v w1 H1 l1 g1 v1 => ?_⟩
      exact ⟨false, tru_ok e2 g1 v1, ⟨w1, g1, l.up l1, fun v w2 H2 l2 g2 v2 => q v w2 H2 (l1.trans l2) g2 v2⟩⟩
    · rename_i e2
      cases hm
      refine PE.imp (pe_orT (h1 _ _ _ _ e1) h2.fam) fun σ H Q ⟨w, g, l, q⟩ => ⟨w, g, l, fun v w1 H1 l1 g1 v1 => ?_⟩
      exact ⟨true, tru_ok e2 g1 v1, q v w1 H1 l1 g1 v1⟩
    · cases hm
  · cases hm
def eNot (m : ME) : ME := fun e s => match m e s with
  | some (d, s1) => match truD s1 d with
    | some k => some (.d (.bool (!k)), s1)
    | none => none
  | none => none
theorem n_not (h : NE X a m) : NE X (.UnaryOp .Not a pos) (eNot m) := fun e s d s' hm => by
  unfold eNot at hm
  split at hm
  · rename_i d1 s1 e1
    split at hm
    · rename_i k e2
      cases hm
      exact PE.imp (pe_notT (h _ _ _ _ e1)) fun σ H Q ⟨w, g, l, q⟩ => ⟨w, g, l, fun v w1 H1 l1 g1 v1 => ⟨k, tru_ok e2 g1 v1, q _ w1 H1 l1 g1 vb⟩⟩
    · cases hm
  · cases hm
def eIte (mt : MT) (ma mb : ME) : ME := fun e s => match mt e s with
  | some (true, s1) => ma e s1
  | some (false, s1) => mb e s1
  | none => none
theorem n_ite (hc : NT X c mt) (ha : NE X a ma) (hb : NE X b mb) : NE X (.IfExp c a b pos) (eIte mt ma mb) := fun e s d s' hm => by
  unfold eIte at hm
  split at hm
  · rename_i s1 e1
    exact PE.imp (pe_ifExp (hc _ _ _ _ e1) (ha _ _ _ _ hm) Z.pe_noway) fun σ H Q ⟨w, g, l, q⟩ => ⟨w, g, l, fun w1 H1 l1 g1 => ⟨w1, g1, l.up l1, fun v w2 H2 l2 g2 v2 => q v w2 H2 (l1.trans l2) g2 v2⟩⟩
  · rename_i s1 e1
    exact PE.imp (pe_ifExp (hc _ _ _ _ e1) Z.pe_noway (hb _ _ _ _ hm)) fun σ H Q ⟨w, g, l, q⟩ => ⟨w, g, l, fun w1 H1 l1 g1 => ⟨w1, g1, l.up l1, fun v w2 H2 l2 g2 v2 => q v w2 H2 (l1.trans l2) g2 v2⟩⟩
  · cases hm
/-- a < b < c of numbers; the last one leaves the store -/
def chK (f g : Int → Int → Bool) (ma mb mc : ME) : MT := fun e s => match ma e s with
  | some (.d (.int i), s1) => match mb e s1 with
    | some (.d (.int j), s2) => if f i j then match mc e s2 with
        | some (.d (.int k), s3) => some (g j k, s3)
        | _ => none
      else some (false, s2)
    | _ => none
  | _ => none
def eCh (f g : Int → Int → Bool) (ma mb mc : ME) : ME := fun e s => match chK f g ma mb mc e s with
  | some (k, s1) => some (.d (.bool k), s1)
  | none => none
theorem ch_cases {f g : Int → Int → Bool} {e : Lo} {s s' : Sto} {k : Bool} (h : chK f g ma mb mc e s = some (k, s')) : ∃ i s1 j s2, ma e s = some (.d (.int i), s1) ∧ mb e s1 = some (.d (.int j), s2) ∧ ((f i j = true ∧ ∃ l, mc e s2 = some (.d (.int l), s') ∧ k = g j l) ∨ (f i j = false ∧ k = false ∧ s' = s2)) := by
  unfold chK at h
  split at h
  · rename_i i s1 e1
    split at h
    · rename_i j s2 e2
      refine ⟨i, s1, j, s2, e1, e2, ?_⟩
      split at h
      · rename_i hf
        split at h
        · rename_i l s3 e3
          cases h
          exact .inl ⟨hf, l, e3, rfl⟩
        · cases h
      · rename_i hf
        cases h
        exact .inr ⟨by simpa using hf, rfl, rfl⟩
    · cases h
  · cases h
theorem n_ch {op op' : CmpOp} {f g : Int → Int → Bool} (h1 : OpR X (compareOp op) (rI0 fun i j => .bl (f i j))) (h2 : OpR X (compareOp op') (rI0 fun i j => .bl (g i j))) (ha : NE X a ma) (hb : NE X b mb) (hc : NE X c mc) (hm : lastMarks [op, op'] [b, c] = false := by with_unfolding_all rfl) :
    NE X (.Compare a [op, op'] [b, c] pos) (eCh f g ma mb mc) := fun e s d s' h => by
  unfold eCh at h
  split at h
  · rename_i k s1' e0
    cases h
    obtain ⟨i, s1, j, s2, e1, e2, h3⟩ := ch_cases e0
    rcases h3 with ⟨hf, l, e3, rfl⟩ | ⟨hf, rfl, rfl⟩
    · refine PE.imp (pe_chain h1 h2 (ha _ _ _ _ e1) (hb _ _ _ _ e2) (hc _ _ _ _ e3) hm) fun σ H Q ⟨w, G, L, q⟩ => ?_
      refine ⟨w, G, L, fun v w1 H1 l1 g1 v1 => ⟨w1, g1, L.up l1, fun u w2 H2 l2 g2 v2 => ?_⟩⟩
      cases vr_int v1
      cases vr_int v2
      refine ⟨i, j, rfl, rfl, _, rfl, ?_⟩
      rw [hf, if_pos rfl]
      refine ⟨w2, g2, (L.up l1).up l2, fun z w3 H3 l3 g3 v3 => ?_⟩
      cases vr_int v3
      exact ⟨j, l, rfl, rfl, q _ w3 H3 ((l1.trans l2).trans l3) g3 vb⟩
    · refine PE.imp (pe_chain h1 h2 (ha _ _ _ _ e1) (hb _ _ _ _ e2) hc.fam hm) fun σ H Q ⟨w, G, L, q⟩ => ?_
      refine ⟨w, G, L, fun v w1 H1 l1 g1 v1 => ⟨w1, g1, L.up l1, fun u w2 H2 l2 g2 v2 => ?_⟩⟩
      cases vr_int v1
      cases vr_int v2
      refine ⟨i, j, rfl, rfl, _, rfl, ?_⟩
      rw [hf, if_neg Bool.false_ne_true]
      exact q _ w2 H2 (l1.trans l2) g2 vb
  · cases h
theorem nt_ch {op op' : CmpOp} {f g : Int → Int → Bool} (h1 : OpR X (compareOp op) (rI0 fun i j => .bl (f i j))) (h2 : OpR X (compareOp op') (rI0 fun i j => .bl (g i j))) (ha : NE X a ma) (hb : NE X b mb) (hc : NE X c mc) (hm : lastMarks [op, op'] [b, c] = false := by with_unfolding_all rfl) :
    NT X (.Compare a [op, op'] [b, c] pos) (chK f g ma mb mc) := fun e s d s' e0 => by
  obtain ⟨i, s1, j, s2, e1, e2, h3⟩ := ch_cases e0
  rcases h3 with ⟨hf, l, e3, rfl⟩ | ⟨hf, rfl, rfl⟩
  · refine PT.imp (pt_chain h1 h2 (ha _ _ _ _ e1) (hb _ _ _ _ e2) (hc _ _ _ _ e3) hm) fun σ H Q ⟨w, G, L, q⟩ => ?_
    refine ⟨w, G, L, fun v w1 H1 l1 g1 v1 => ⟨w1, g1, L.up l1, fun u w2 H2 l2 g2 v2 => ?_⟩⟩
    cases vr_int v1
    cases vr_int v2
    refine ⟨i, j, rfl, rfl, _, rfl, ?_⟩
    rw [hf, if_pos rfl]
    refine ⟨w2, g2, (L.up l1).up l2, fun z w3 H3 l3 g3 v3 => ?_⟩
    cases vr_int v3
    exact ⟨j, l, rfl, rfl, _, rfl, q w3 H3 ((l1.trans l2).trans l3) g3⟩
  · refine PT.imp (pt_chain h1 h2 (ha _ _ _ _ e1) (hb _ _ _ _ e2) hc.fam hm) fun σ H Q ⟨w, G, L, q⟩ => ?_
    refine ⟨w, G, L, fun v w1 H1 l1 g1 v1 => ⟨w1, g1, L.up l1, fun u w2 H2 l2 g2 v2 => ?_⟩⟩
    cases vr_int v1
    cases vr_int v2
    refine ⟨i, j, rfl, rfl, _, rfl, ?_⟩
    rw [hf, if_neg Bool.false_ne_true]
    exact ⟨_, rfl, q w2 H2 (l1.trans l2) g2⟩

def cInQ (neg : Bool) (x : PyData) (ds : List PyData) : Option Bool :=
  if PyData.plainAll ds = true ∧ x.plain = true ∧ min (PyData.depthAll ds) x.depth ≤ 60 then some (if neg then !(ds.any fun z => PyData.eqv z x) else ds.any fun z => PyData.eqv z x) else none
noncomputable def dHas (kvs : List (PyData × D)) (x : PyData) : Bool := kvs.any fun kv => decide (kv.1 = x)
def kHas (kvs : List (Key × D)) (k : Key) : Bool := kvs.any fun kv => decide (kv.1 = k)
def isKey (x : PyData) : Bool := Z.isTup x && Z.kOK x && decide (Z.dep x ≤ 8)
def keyOf : PyData → Option Key
  | .int i => some (.inl i)
  | .str x => some (.inr x)
  | _ => none
/-- x in: a tuple, a list, a dict of the store -/
noncomputable def cIn (neg : Bool) : FC := fun s a b => match b with
  | .d (.tuple ds) => match pd s a with
    | some x => cInQ neg x ds
    | none => none
  | .d (.list ds) => match pd s a with
    | some x => cInQ neg x ds
    | none => none
  | .r j => match s[j]? with
    | some (.lst ds) => match data ds with
      | some ds => match pd s a with
        | some x => cInQ neg x ds
        | none => none
      | none => none
    | some (.dic kvs) => match a with
      | .d x => if isKey x then some (if neg then !dHas kvs x else dHas kvs x) else none
      | _ => none
    | some (.dk kvs) => match a with
      | .d x => match keyOf x with
        | some k => some (if neg then !kHas kvs k else kHas kvs k)
        | none => none
      | _ => none
    | _ => none
  | _ => none
theorem DR.has {B : Ba} {w : W} {x : PyData} : ∀ {xs : List DEn} {kvs : List (PyData × D)}, DR B w xs kvs → (atKey xs x).isSome = dHas kvs x
  | [], [], _ => rfl
  | e :: xs, kv :: kvs, ⟨⟨h1, _⟩, h⟩ => by
    have ih := DR.has (x := x) h
    unfold atKey dHas at ih ⊢
    rw [Option.isSome_map] at ih ⊢
    rw [List.find?_cons, List.any_cons, ← ih, h1]
    by_cases hk : kv.1 = x
    · simp [hk]
    · simp [hk]
  | [], _ :: _, h => h.elim
  | _ :: _, [], h => h.elim
theorem DR.ky {B : Ba} {w : W} {H : Hp} (e : Ext w.F H) : ∀ {xs : List DEn} {kvs : List (PyData × D)}, DR B w xs kvs → ∀ x ∈ xs, KyD B.K H x.2.1 x.1
  | [], [], _, x, h => by cases h
  | y :: xs, kv :: kvs, ⟨⟨_, ⟨h2, h3⟩, _⟩, h⟩, x, hx => by
    rcases List.mem_cons.mp hx with rfl | hx
    · exact ⟨dpUp e _ _ h2, h3⟩
    · exact DR.ky e h x hx
  | [], _ :: _, h, _, _ => h.elim
  | _ :: _, [], h, _, _ => h.elim
theorem key_ok {B : Ba} {w : W} {v : V} {x : PyData} (hk : isKey x = true) (hv : VR B w v (.d x)) : ∃ b, v = .ref b ∧ KyD B.K w.F b x := by
  unfold isKey at hk
  simp only [Bool.and_eq_true, decide_eq_true_eq] at hk
  obtain ⟨⟨h1, h2⟩, h3⟩ := hk
  cases x with
  | tuple ds =>
    have hv' : Dp B.K w.F v (.tuple ds) := hv
    obtain ⟨b, vs, rfl, _, _⟩ := dp_tup hv'
    exact ⟨b, rfl, hv', h2, h3⟩
  | _ => simp [Z.isTup] at h1
theorem keyOf_ok {B : Ba} {w : W} {v : V} {x : PyData} {k : Key} (hk : keyOf x = some k) (hv : VR B w v (.d x)) : v = kV k := by
  cases x with
  | int i => cases hk; exact vr_int hv
  | str i => cases hk; exact vr_str hv
  | _ => cases hk
end
end N

namespace N
open PySem L2 PyProof.Rows
open Z (Ext dpUp dpsUp dpsLen dpsGet DxO KyD DEn Cl cut)
section
variable {X : Cx} {ex a b c : Expr} {es : List Expr} {m ma mb mc : ME} {ms : MA} {mt mu : MT} {pos p : Pos}

abbrev FA := Sto → List D → Option (D × Sto)
def CaN (B : Ba) (q : List V → Hp → VK → Prop) (s : Sto) (ds : List D) (z : D) (s' : Sto) : Prop := ∀ us w H Q, Ok B w s H → VRs B w us ds → (∀ v w' H', w.le w' → Ok B w' s' H' → VR B w' v z → Q v H') → q us H Q
def CalS (X : Cx) (u : Value) (f : FA) : Prop := ∀ s ds z s', f s ds = some (z, s') → ∃ q, CallR X u q ∧ CaN (ba X) q s ds z s'
def eCall (f : FA) (ms : MA) : ME := fun e s => match ms e s with
  | some (ds, s1) => f s1 ds
  | none => none
theorem call_cases {f : FA} {e : Lo} {s s' : Sto} {z : D} (h : eCall f ms e s = some (z, s')) : ∃ ds s1, ms e s = some (ds, s1) ∧ f s1 ds = some (z, s') := by
  unfold eCall at h
  split at h
  · rename_i ds s1 e1
    exact ⟨ds, s1, e1, h⟩
  · cases h
theorem n_callB {f : FA} {id : String} {x : Str} (hc : CalS X (.builtin id) f) (ha : NA X (ex :: es) ms) (hm : X.mg x = none) (hv : bootBuiltins x = some (.builtin id) := by decide +kernel) (cl : Cl X x ex es pos := by exact ⟨rfl, rfl, rfl⟩) (hn : x ≠ "__name__" := by decide)
    (hdb : (x == ("__debug__" : Str)) = false := by decide) : NE X (.Call (.Name x p) (ex :: es) [] pos) (eCall f ms) := fun e s z s' h => by
  obtain ⟨ds, s1, e1, e2⟩ := call_cases h
  obtain ⟨q, hq, hB⟩ := hc _ _ _ _ e2
  exact PE.imp (pe_callB hq cl.1 hm hv (ha _ _ _ _ e1) hn hdb cl.2.1 cl.2.2) fun σ H Q ⟨w, g, l, k⟩ => ⟨w, g, l, fun us w1 H1 l1 g1 v1 => hB us w1 H1 Q g1 v1 fun v w2 H2 l2 g2 v2 => k v w2 H2 (l1.trans l2) g2 v2⟩
theorem n_callT {f : FA} {id : String} {x : Str} (hc : CalS X (.type id) f) (ha : NA X (ex :: es) ms) (hm : X.mg x = none) (hv : bootBuiltins x = some (.type id) := by decide +kernel) (cl : Cl X x ex es pos := by exact ⟨rfl, rfl, rfl⟩) (hn : x ≠ "__name__" := by decide)
    (hdb : (x == ("__debug__" : Str)) = false := by decide) : NE X (.Call (.Name x p) (ex :: es) [] pos) (eCall f ms) := fun e s z s' h => by
  obtain ⟨ds, s1, e1, e2⟩ := call_cases h
  obtain ⟨q, hq, hB⟩ := hc _ _ _ _ e2
  exact PE.imp (pe_callTy hq cl.1 hm hv (ha _ _ _ _ e1) hn hdb cl.2.1 cl.2.2) fun σ H Q ⟨w, g, l, k⟩ => ⟨w, g, l, fun us w1 H1 l1 g1 v1 => hB us w1 H1 Q g1 v1 fun v w2 H2 l2 g2 v2 => k v w2 H2 (l1.trans l2) g2 v2⟩
theorem vrs1 {B : Ba} {w : W} {us : List V} {d : D} (h : VRs B w us [d]) : ∃ u, us = [u] ∧ VR B w u d := by
  match us, h with
  | [u], ⟨h1, _⟩ => exact ⟨u, rfl, h1⟩
theorem vrs2 {B : Ba} {w : W} {us : List V} {d d' : D} (h : VRs B w us [d, d']) : ∃ u v, us = [u, v] ∧ VR B w u d ∧ VR B w v d' := by
  match us, h with
  | [u, v], ⟨h1, h2, _⟩ => exact ⟨u, v, rfl, h1, h2⟩
/-- one argument, a datum out, the store as it was -/
def f1 (g : Sto → D → Option PyData) : FA := fun s ds => match ds with
  | [d] => match g s d with
    | some x => some (.d x, s)
    | none => none
  | _ => none
theorem f1_ok {u : Value} {g : Sto → D → Option PyData} (h : ∀ s d x, g s d = some x → ∃ q, CallR X u q ∧ ∀ v w H Q, Ok (ba X) w s H → VR (ba X) w v d → (∀ v' w' H', w.le w' → Ok (ba X) w' s H' → VR (ba X) w' v' (.d x) → Q v' H') → q [v] H Q) : CalS X u (f1 g) := fun s ds z s' e => by
  unfold f1 at e
  split at e
  · rename_i d
    split at e
    · rename_i x e1
      cases e
      obtain ⟨q, h1, h2⟩ := h s d x e1
      refine ⟨q, h1, fun us w H Q G hv k => ?_⟩
      obtain ⟨v, rfl, hv1⟩ := vrs1 hv
      exact h2 v w H Q G hv1 k
    · cases e
  · cases e
def lenG (s : Sto) : D → Option PyData
  | .d (.str x) => if x.length ≤ lim then some (.int (x.length : Nat)) else none
  | .d (.tuple xs) => some (.int (xs.length : Nat))
  | d => match asL s d with
    | some ds => some (.int (ds.length : Nat))
    | none => none
def bLen : FA := f1 lenG
theorem b_len : CalS X (.builtin "len") bLen := f1_ok fun s d x e => by
  unfold lenG at e
  split at e
  · rename_i y
    split at e
    · rename_i hl
      cases e
      refine ⟨_, call_len_str, fun v w H Q G hv k => ?_⟩
      cases vr_str hv
      exact ⟨y, rfl, Nat.le_trans hl (Nat.le_of_lt lim_lt), k _ w H (W.le.refl w) G vi⟩
    · cases e
  · rename_i xs
    cases e
    refine ⟨_, call_len_seq, fun v w H Q G hv k => ?_⟩
    obtain ⟨q, vs, rfl, h1, h2⟩ := dp_tup hv
    exact ⟨q, vs, rfl, .inr (G.ext.t h1), k _ w H (W.le.refl w) G (by rw [dpsLen h2]; exact vi)⟩
  · split at e
    · rename_i ds e1
      cases e
      refine ⟨_, call_len_seq, fun v w H Q G hv k => ?_⟩
      obtain ⟨q, vs, rfl, h1, h2⟩ := asL_ok e1 G hv
      exact ⟨q, vs, rfl, .inl h1, k _ w H (W.le.refl w) G (by rw [h2.len]; exact vi)⟩
    · cases e
def bInt : FA := f1 fun _ d => match d with
  | .d (.int i) => some (.int i)
  | .d (.bool b) => some (.int (if b then 1 else 0))
  | _ => none
theorem b_int : CalS X (.type "int") bInt := f1_ok fun s d x e => by
  split at e
  · rename_i i
    cases e
    refine ⟨_, call_int1, fun v w H Q G hv k => ?_⟩
    cases vr_int hv
    exact .inl ⟨i, rfl, k _ w H (W.le.refl w) G vi⟩
  · rename_i b
    cases e
    refine ⟨_, call_int1, fun v w H Q G hv k => ?_⟩
    cases vr_bl hv
    exact .inr ⟨b, rfl, k _ w H (W.le.refl w) G vi⟩
  · cases e
def bStr : FA := f1 fun _ d => match d with
  | .d (.int i) => if i.natAbs.log2 < 1920 then some (.str (toString i)) else none
  | _ => none
theorem b_str : CalS X (.type "str") bStr := f1_ok fun s d x e => by
  split at e
  · rename_i i
    split at e
    · rename_i hl
      cases e
      refine ⟨_, call_str_int, fun v w H Q G hv k => ?_⟩
      cases vr_int hv
      exact ⟨i, rfl, hl, k _ w H (W.le.refl w) G vs'⟩
    · cases e
  · cases e
def intsOf : List D → Option (List Int)
  | [] => some []
  | .d (.int i) :: r => match intsOf r with
    | some xs => some (i :: xs)
    | none => none
  | _ => none
theorem ints_eq : ∀ {ds : List D} {xs : List Int}, intsOf ds = some xs → ds = xs.map fun i => .d (.int i)
  | [], xs, h => by cases h; rfl
  | .d (.int x) :: r, xs, h => by
    unfold intsOf at h
    split at h
    · rename_i ys e
      cases h
      rw [ints_eq e]; rfl
    · cases h
  | .r _ :: _, _, h => by cases h
  | .d .none :: _, _, h => by cases h
  | .d (.bool _) :: _, _, h => by cases h
  | .d (.str _) :: _, _, h => by cases h
  | .d (.list _) :: _, _, h => by cases h
  | .d (.tuple _) :: _, _, h => by cases h
  | .d (.dict _) :: _, _, h => by cases h
theorem vrs_ints {B : Ba} {w : W} : ∀ {xs : List Int} {vs : List V}, VRs B w vs (xs.map fun i => .d (.int i)) → vs = xs.map V.int
  | [], [], _ => rfl
  | x :: xs, v :: vs, ⟨h1, h2⟩ => by rw [vr_int h1, vrs_ints h2]; rfl
  | [], _ :: _, h => h.elim
  | _ :: _, [], h => h.elim
def bools : List D → Option (List Bool)
  | [] => some []
  | .d (.bool i) :: r => match bools r with
    | some xs => some (i :: xs)
    | none => none
  | _ => none
theorem bools_eq : ∀ {ds : List D} {xs : List Bool}, bools ds = some xs → ds = xs.map fun i => .d (.bool i)
  | [], xs, h => by cases h; rfl
  | .d (.bool x) :: r, xs, h => by
    unfold bools at h
    split at h
    · rename_i ys e
      cases h
      rw [bools_eq e]; rfl
    · cases h
  | .r _ :: _, _, h => by cases h
  | .d .none :: _, _, h => by cases h
  | .d (.int _) :: _, _, h => by cases h
  | .d (.str _) :: _, _, h => by cases h
  | .d (.list _) :: _, _, h => by cases h
  | .d (.tuple _) :: _, _, h => by cases h
  | .d (.dict _) :: _, _, h => by cases h
theorem vrs_bools {B : Ba} {w : W} : ∀ {xs : List Bool} {vs : List V}, VRs B w vs (xs.map fun i => .d (.bool i)) → vs = xs.map V.bl
  | [], [], _ => rfl
  | x :: xs, v :: vs, ⟨h1, h2⟩ => by rw [vr_bl h1, vrs_bools h2]; rfl
  | [], _ :: _, h => h.elim
  | _ :: _, [], h => h.elim
def qL (g : List D → Option PyData) : FA := f1 fun s d => match asL s d with
  | some ds => g ds
  | none => none
def bAll : FA := qL fun ds => match bools ds with
  | some bs => some (.bool (bs.all id))
  | none => none
def bAny : FA := qL fun ds => match bools ds with
  | some bs => some (.bool (bs.any id))
  | none => none
theorem qL_ok {u : Value} {g : List D → Option PyData} {q : List V → Hp → VK → Prop} (hq : CallR X u q) (h : ∀ ds x, g ds = some x → ∀ p vs w s H (Q : VK), SqL X.K H p vs → VRs (ba X) w vs ds → Ok (ba X) w s H → (∀ v', VR (ba X) w v' (.d x) → Q v' H) → q [.ref p] H Q) : CalS X u (qL g) := f1_ok fun s d x e => by
  split at e
  · rename_i ds e1
    refine ⟨q, hq, fun v w H Q G hv k => ?_⟩
    obtain ⟨p, vs, rfl, h1, h2⟩ := asL_ok e1 G hv
    exact h ds x e p vs w s H Q h1 h2 G fun v' hv' => k v' w H (W.le.refl w) G hv'
  · cases e
theorem b_all (hk : X.calm = true) : CalS X (.builtin "all") bAll := qL_ok (cr_all hk) fun ds x e p vs w s H Q h1 h2 G k => by
  split at e
  · rename_i bs e1
    cases e
    rw [bools_eq e1] at h2
    cases vrs_bools h2
    exact ⟨p, bs, rfl, h1, k _ vb⟩
  · cases e
theorem b_any (hk : X.calm = true) : CalS X (.builtin "any") bAny := qL_ok (cr_any hk) fun ds x e p vs w s H Q h1 h2 G k => by
  split at e
  · rename_i bs e1
    cases e
    rw [bools_eq e1] at h2
    cases vrs_bools h2
    exact ⟨p, bs, rfl, h1, k _ vb⟩
  · cases e
/-- greatest, least of two -/
def f2i (g : Int → Int → Int) : FA := fun s ds => match ds with
  | [.d (.int i), .d (.int j)] => some (.d (.int (g i j)), s)
  | _ => none
def mn2 (i j : Int) : Int := if j < i then j else i
theorem f2i_ok {u : Value} {g : Int → Int → Int} (hq : CallR X u (fun xs H Q => ∃ i j, xs = [.int i, .int j] ∧ Q (.int (g i j)) H)) : CalS X u (f2i g) := fun s ds z s' e => by
  unfold f2i at e
  split at e
  · rename_i i j
    cases e
    refine ⟨_, hq, fun us w H Q G hv k => ?_⟩
    obtain ⟨u, v, rfl, h1, h2⟩ := vrs2 hv
    cases vr_int h1
    cases vr_int h2
    exact ⟨i, j, rfl, k _ w H (W.le.refl w) G vi⟩
  · cases e
def bMin2 : FA := f2i mn2
theorem b_min2 (hk : X.calm = true) : CalS X (.builtin "min") bMin2 := f2i_ok (call_min2 hk)
/-- tuple(x), list(x) -/
def asSeq (s : Sto) (d : D) : Option (List D) := match d with
  | .d (.tuple xs) => some (xs.map .d)
  | d => asL s d
theorem asSeq_ok {B : Ba} {w : W} {s : Sto} {H : Hp} {v : V} {d : D} {ds : List D} (h : asSeq s d = some ds) (g : Ok B w s H) (hv : VR B w v d) : ∃ p vs, v = .ref p ∧ (SqL B.K H p vs ∨ SqT B.K H p vs) ∧ VRs B w vs ds := by
  unfold asSeq at h
  split at h
  · cases h
    obtain ⟨p, vs, rfl, h1, h2⟩ := dp_tup hv
    exact ⟨p, vs, rfl, .inr (g.ext.t h1), VRs.data.mpr h2⟩
  · obtain ⟨p, vs, e1, h1, h2⟩ := asL_ok h g hv
    exact ⟨p, vs, e1, .inl h1, h2⟩
def bTuple : FA := fun s ds => match ds with
  | [.d (.tuple xs)] => some (.d (.tuple xs), s)
  | [d] => match asL s d with
    | some ds => match data ds with
      | some xs => some (.d (.tuple xs), s)
      | none => none
    | none => none
  | _ => none
def bList (own : Bool) : FA := fun s ds => match ds with
  | [d] => match asSeq s d with
    | some ds => mkL own s ds
    | none => none
  | _ => none
theorem b_tuple : CalS X (.type "tuple") bTuple := fun s ds z s' e => by
  unfold bTuple at e
  split at e
  · rename_i xs
    cases e
    refine ⟨_, call_tuple_of, fun us w H Q G hv k => ?_⟩
    obtain ⟨v, rfl, hv1⟩ := vrs1 hv
    obtain ⟨p, vs, rfl, h1, h2⟩ := dp_tup hv1
    exact ⟨p, vs, rfl, .inr ⟨G.ext.t h1, k _ w H (W.le.refl w) G hv1⟩⟩
  · rename_i d _
    split at e
    · rename_i ds e1
      split at e
      · rename_i xs e2
        cases e
        refine ⟨_, call_tuple_of, fun us w H Q G hv k => ?_⟩
        obtain ⟨v, rfl, hv1⟩ := vrs1 hv
        obtain ⟨p, vs, rfl, h1, h2⟩ := asL_ok e1 G hv1
        rw [data_eq e2] at h2
        refine ⟨p, vs, rfl, .inl ⟨h1, fun l hl => ?_⟩⟩
        obtain ⟨w', l', g', v'⟩ := tup_ok G hl (VRs.data.mp h2)
        exact k _ w' _ l' g' v'
      · cases e
    · cases e
  · cases e
theorem b_list {own : Bool} : CalS X (.type "list") (bList own) := fun s ds z s' e => by
  unfold bList at e
  split at e
  · rename_i d
    split at e
    · rename_i ds e1
      refine ⟨_, call_list_of, fun us w H Q G hv k => ?_⟩
      obtain ⟨v, rfl, hv1⟩ := vrs1 hv
      obtain ⟨p, vs, rfl, h1, h2⟩ := asSeq_ok e1 G hv1
      refine ⟨p, vs, rfl, h1, fun l hl => ?_⟩
      obtain ⟨w', l', g', v'⟩ := mkL_ok e G hl h2
      exact k _ w' _ l' g' v'
    · cases e
  · cases e
/-- sorted(xs), xs a list of data of one shape -/
structure SrtOk (xs : List PyData) : Prop where
  al : PySem.W.AllAlike xs
  so : Z.SrtK xs
  dp : ∀ d ∈ xs, d.depth ≤ 60
inductive TyT where | tup | lst | bl | int | str
def TyT.of : TyT → PyData → Bool
  | .tup => Z.isTup | .lst => Z.isLst | .bl => Z.isBl | .int => Z.isInt | .str => Z.isStr
def TyT.nm : TyT → String
  | .tup => "tuple" | .lst => "list" | .bl => "bool" | .int => "int" | .str => "str"
theorem TyT.kit (t : TyT) (x : PyData) : kitB (Z.tyN x) t.nm = some (t.of x) := by
  cases t
  · exact Z.kit_tup x
  · exact Z.kit_lst x
  · exact Z.kit_bl x
  · exact Z.kit_int x
  · exact Z.kit_str x
def eIsi (t : TyT) (m : ME) : ME := fun e s => match m e s with
  | some (d, s1) => match pd s1 d with
    | some x => some (.d (.bool (t.of x)), s1)
    | none => none
  | none => none
theorem n_isi {T : Str} {q : Pos} (t : TyT) (ha : NE X a m) (hm : X.mg "isinstance" = none) (hmT : X.mg T = none) (hv : bootBuiltins T = some (.type t.nm) := by decide +kernel) (hg : Gl X T := by rfl) (hc : Cl X "isinstance" a [.Name T q] pos := by exact ⟨rfl, rfl, rfl⟩)
    (hs : starEach [Expr.Name T q] X.env = [(false, eval (.Name T q) X.env)] := by rfl) (hn : T ≠ "__name__" := by decide) (hd : (T == ("__debug__" : Str)) = false := by decide) :
    NE X (.Call (.Name "isinstance" p) [a, .Name T q] [] pos) (eIsi t m) := fun e s d s' h => by
  unfold eIsi at h
  split at h
  · rename_i d1 s1 e1
    split at h
    · rename_i x e2
      cases h
      refine PE.imp (pe_callB call_isi hc.1 hm (by decide +kernel) (pa_cons (ha _ _ _ _ e1) (pa_cons (pe_bltn hg hmT hv (v := .ty t.nm) rfl hn hd) pa_nil hs) hc.2.1) (by decide) (by decide) hc.2.1 hc.2.2) fun σ H Q ⟨w, g, l, q⟩ => ⟨w, g, l, fun v w1 H1 l1 g1 v1 => ?_⟩
      have d := pd_ok e2 g1 v1
      exact ⟨_, _, _, _, t.of x, rfl, .ty t.nm, Z.dp_ty d, kit_ty (t.kit x), q _ w1 H1 l1 g1 vb⟩
    · cases h
  · cases h

def gIx (s : Sto) (a : D) (i : Int) : Option D := match asSeq s a with
  | some ds => atI ds i
  | none => none
theorem vrs_atI {B : Ba} {w : W} {vs : List V} {ds : List D} {i : Int} {x : D} (h : VRs B w vs ds) (e : atI ds i = some x) : ∃ v, atI vs i = some v ∧ VR B w v x := by
  unfold atI at e ⊢
  rw [h.len]
  cases q : ixN ds.length i with
  | none => rw [q] at e; cases e
  | some j =>
    rw [q] at e
    exact h.get e
def eIx (ma mb : ME) : ME := eBin (fun s a b => match b with
  | .d (.int i) => match gIx s a i with
    | some d => some (d, s)
    | none => none
  | _ => none) ma mb
theorem n_ix (ha : NE X a ma) (hb : NE X b mb) (hs : PlainIx b := by intro _ _; rfl) : NE X (.Subscript a b pos) (eIx ma mb) := fun e s z s' h => by
  obtain ⟨x, s1, y, s2, e1, e2, e3⟩ := bin_cases h
  split at e3
  · rename_i i
    split at e3
    · rename_i d e4
      cases e3
      unfold gIx at e4
      split at e4
      · rename_i ds e5
        have run : ∀ {q : R2}, IxR X q → (∀ p vs v H Q, (SqL X.K H p vs ∨ SqT X.K H p vs) → atI vs i = some v → Q v H → q (.ref p) (.int i) H Q) → PE X (.Subscript a b pos) (tE (ba X) e s z s') := fun hq hr =>
          PE.imp (pe_ix hq (ha _ _ _ _ e1) (hb _ _ _ _ e2) hs) (bi_run fun u v w H Q g h1 h2 k => by
            cases vr_int h2
            obtain ⟨p, vs, rfl, h3, h4⟩ := asSeq_ok e5 g h1
            obtain ⟨v, h5, h6⟩ := vrs_atI h4 e4
            exact hr p vs v H Q h3 h5 (k v w H (W.le.refl w) g h6))
        exact run ix_seq fun p vs v H Q h1 h2 q => h1.elim (fun h => .inl ⟨p, vs, i, v, rfl, rfl, h, h2, q⟩) fun h => .inr (.inl ⟨p, vs, i, v, rfl, rfl, h, h2, q⟩)
      · cases e4
    · cases e3
  · cases e3
def oNone : MO := fun _ s => some (none, s)
def oSome (m : ME) : MO := fun e s => match m e s with
  | some (.d (.int i), s1) => some (some i, s1)
  | _ => none
theorem no_none : NO X none oNone := fun e s i s' h => by
  cases h
  exact Z.PO.imp po_none fun σ H Q ⟨w, g, l, q⟩ => q w H (W.le.refl w) g
theorem no_some (h : NE X ex m) : NO X (some ex) (oSome m) := fun e s i s' hm => by
  unfold oSome at hm
  split at hm
  · rename_i j s1 e1
    cases hm
    exact Z.PO.imp (po_some (h _ _ _ _ e1)) fun σ H Q ⟨w, g, l, q⟩ => ⟨w, g, l, fun v w1 H1 l1 g1 v1 => by
      cases vr_int v1
      exact ⟨j, rfl, q w1 H1 l1 g1⟩⟩
  · cases hm
def cutD {α : Type} (xs : List α) (lo hi : Option Int) : List α := (xs.drop (HT.sIx xs.length 0 lo)).take (HT.sIx xs.length xs.length hi - HT.sIx xs.length 0 lo)
theorem vrs_cut {B : Ba} {w : W} {vs : List V} {ds : List D} {lo hi : Option Int} (h : VRs B w vs ds) : VRs B w (cutV vs lo hi) (cutD ds lo hi) := by
  unfold cutV cutD
  rw [h.len]
  exact VRs.take _ (VRs.drop _ h)
theorem dps_cut {K : PySem.W.Frag} {F : Hp} {vs : List V} {ds : List PyData} {lo hi : Option Int} (h : DpAll K F vs ds) : DpAll K F (cutV vs lo hi) (cutD ds lo hi) := by
  unfold cutV cutD
  rw [dpsLen h]
  exact Z.dpsTake _ (Z.dpsDrop _ h)
def eSl (own : Bool) (ma : ME) (ml mu : MO) : ME := fun e s => match ma e s with
  | some (a, s1) => match ml e s1 with
    | some (l, s2) => match mu e s2 with
      | some (u, s3) => match a with
        | .d (.tuple xs) => some (.d (.tuple (cutD xs l u)), s3)
        | a => match asL s3 a with
          | some ds => mkL own s3 (cutD ds l u)
          | none => none
      | none => none
    | none => none
  | none => none
theorem n_sl {own : Bool} {lo hi : Option Expr} {ml mu : MO} {p2 : Pos} (ha : NE X a ma) (hl : NO X lo ml) (hu : NO X hi mu) : NE X (.Subscript a (.Slice lo hi none p2) pos) (eSl own ma ml mu) := fun e s z s' h => by
  unfold eSl at h
  split at h
  · rename_i a1 s1 e1
    split at h
    · rename_i l s2 e2
      split at h
      · rename_i u s3 e3
        split at h
        · rename_i xs
          cases h
          refine PE.imp (pe_slice sl_tupA (ha _ _ _ _ e1) (hl _ _ _ _ e2) (hu _ _ _ _ e3)) fun σ H Q ⟨w, g, L, k⟩ => ⟨w, g, L, fun v w1 H1 l1 g1 v1 => ⟨w1, g1, L.up l1, fun w2 H2 l2 g2 => ⟨w2, g2, (L.up l1).up l2, fun w3 H3 l3 g3 => ?_⟩⟩⟩
          have v3 := (v1.up l2).up l3
          obtain ⟨p, vs, rfl, h1, h2⟩ := dp_tup v3
          refine ⟨p, vs, rfl, g3.ext.t h1, fun ⟨z1, z2⟩ => ?_, fun _ q hq => ?_⟩
          · have e : cutD xs l u = xs := by
              unfold cutD
              rw [dpsLen h2] at z1 z2
              rw [z1, z2]
              simp
            exact k _ w3 _ ((l1.trans l2).trans l3) g3 (by rw [e]; exact v3)
          · obtain ⟨w4, l4, g4, v4⟩ := tup_ok g3 hq (dps_cut h2)
            exact k _ w4 _ (((l1.trans l2).trans l3).trans l4) g4 v4
        · split at h
          · rename_i ds e4
            refine PE.imp (pe_slice sl_list (ha _ _ _ _ e1) (hl _ _ _ _ e2) (hu _ _ _ _ e3)) fun σ H Q ⟨w, g, L, k⟩ => ⟨w, g, L, fun v w1 H1 l1 g1 v1 => ⟨w1, g1, L.up l1, fun w2 H2 l2 g2 => ⟨w2, g2, (L.up l1).up l2, fun w3 H3 l3 g3 => ?_⟩⟩⟩
            obtain ⟨p, vs, rfl, h1, h2⟩ := asL_ok e4 g3 ((v1.up l2).up l3)
            refine ⟨p, vs, rfl, h1, fun q hq => ?_⟩
            obtain ⟨w4, l4, g4, v4⟩ := mkL_ok h g3 hq (vrs_cut h2)
            exact k _ w4 _ (((l1.trans l2).trans l3).trans l4) g4 v4
          · cases h
      · cases h
    · cases h
  · cases h
/-- a[::-1] -/
def eRev (own : Bool) (m : ME) : ME := fun e s => match m e s with
  | some (.d (.tuple xs), s1) => some (.d (.tuple xs.reverse), s1)
  | some (d, s1) => match asL s1 d with
    | some ds => mkL own s1 ds.reverse
    | none => none
  | none => none
theorem n_rev {own : Bool} {k : Nat} {p1 p2 p3 : Pos} (ha : NE X a m) : NE X (.Subscript a (.Slice none none (some (.UnaryOp .USub (.Constant (.int 1) k p1) p2)) p3) pos) (eRev own m) := fun e s z s' h => by
  unfold eRev at h
  split at h
  · rename_i xs s1 e1
    cases h
    refine PE.imp (Z.pe_revT (ha _ _ _ _ e1)) fun σ H Q ⟨w, g, L, k⟩ => ⟨w, g, L, fun v w1 H1 l1 g1 v1 => ?_⟩
    obtain ⟨p, vs, rfl, h1, h2⟩ := dp_tup v1
    refine ⟨p, vs, rfl, g1.ext.t h1, fun q hq => ?_⟩
    obtain ⟨w4, l4, g4, v4⟩ := tup_ok g1 hq (Z.dpsRev h2)
    exact k _ w4 _ (l1.trans l4) g4 v4
  · rename_i d s1 _ e1
    split at h
    · rename_i ds e2
      refine PE.imp (pe_revL (ha _ _ _ _ e1)) fun σ H Q ⟨w, g, L, k⟩ => ⟨w, g, L, fun v w1 H1 l1 g1 v1 => ?_⟩
      obtain ⟨p, vs, rfl, h1, h2⟩ := asL_ok e2 g1 v1
      refine ⟨p, vs, rfl, h1, fun q hq => ?_⟩
      obtain ⟨w4, l4, g4, v4⟩ := mkL_ok h g1 hq h2.rev
      exact k _ w4 _ (l1.trans l4) g4 v4
    · cases h
  · cases h
end
end N

namespace N
open PySem L2 PyProof.Rows
open Z (Ext dpUp dpsUp dpsLen dpsGet DxO KyD DEn Cl cut offv)

inductive Fl where | nx | rt (d : D) | bk | ct
abbrev MS := Lo → Sto → Option (Fl × Lo × Sto)
def tK (B : Ba) (b : Nat) (w : W) (fl : Fl) (e' : Lo) (s' : Sto) (Dn : Ends) : Prop := match fl with
  | .nx => ∀ w' σ' H', (w.take b).le w' → Ok B w' s' H' → Sl B w' e' σ' → Dn.nx σ' H'
  | .rt d => ∀ w' v H', (w.take b).le w' → Ok B w' s' H' → VR B w' v d → Dn.rt v H'
  | .bk => ∀ w' σ' H', (w.take b).le w' → Ok B w' s' H' → Sl B w' e' σ' → Dn.bk σ' H'
  | .ct => ∀ w' σ' H', (w.take b).le w' → Ok B w' s' H' → Sl B w' e' σ' → Dn.ct σ' H'
def tS (B : Ba) (b : Nat) (e : Lo) (s : Sto) (fl : Fl) (e' : Lo) (s' : Sto) : TS := fun Dn σ H => ∃ w, Ok B w s H ∧ Sl B w e σ ∧ tK B b w fl e' s' Dn
def NS (X : Cx) (st : Stmt) (m : MS) : Prop := ∀ e s fl e' s' b, m e s = some (fl, e', s') → b ≤ s.length → PS X st (tS (ba X) b e s fl e' s')
def NSs (X : Cx) (st : List Stmt) (m : MS) : Prop := ∀ e s fl e' s' b, m e s = some (fl, e', s') → b ≤ s.length → PSs X st (tS (ba X) b e s fl e' s')
section
variable {X : Cx} {ex a b c tg : Expr} {es : List Expr} {st : Stmt} {rest body orelse : List Stmt} {m ma mb mc : ME} {ms : MA} {mt mu : MT} {pos p : Pos} {M M1 M2 : MS}
theorem NSs.fam (h : NSs X rest M) : PSs X rest (fun Dn σ H => ∃ e s fl e' s' b, M e s = some (fl, e', s') ∧ b ≤ s.length ∧ tS (ba X) b e s fl e' s' Dn σ H) :=
  ⟨fun pins sh σ H Dn I ⟨e, s, fl, e', s', b, hm, hb, q⟩ => (h e s fl e' s' b hm hb).run pins sh σ H Dn I q⟩
theorem W.le.cut {w w' : W} (h : w.le w') (b : Nat) : (w.take b).le w' := (W.take_le w b).trans h
theorem W.cut_eq {w w' : W} {b : Nat} (h : (w.take b).le w') (hb : b ≤ w.ρ.length) : b ≤ w'.ρ.length ∧ w'.ρ.take b = w.ρ.take b := by
  obtain ⟨m, hm⟩ := h.ρ
  have hm : w.ρ.take b ++ m = w'.ρ := hm
  have l : (w.ρ.take b).length = b := by rw [List.length_take]; omega
  constructor
  · rw [← hm, List.length_append, l]; omega
  · rw [← hm, List.take_append_of_le_length (by omega), List.take_of_length_le (by omega)]
theorem W.cut_trans {w w1 w2 : W} {b : Nat} (h : (w.take b).le w1) (hb : b ≤ w.ρ.length) (h2 : (w1.take b).le w2) : (w.take b).le w2 := by
  obtain ⟨_, e⟩ := W.cut_eq h hb
  refine ⟨h.F.trans h2.F, ?_⟩
  have k := h2.ρ
  rw [show (w1.take b).ρ = w1.ρ.take b from rfl, e] at k
  exact k
theorem tK.mono {B : Ba} {b : Nat} {w w' : W} {fl : Fl} {e : Lo} {s : Sto} {Dn : Ends} (h : tK B b w fl e s Dn) (l : (w.take b).le w') (hb : b ≤ w.ρ.length) : tK B b w' fl e s Dn := by
  cases fl with
  | nx => exact fun w2 σ H l2 => h w2 σ H (W.cut_trans l hb l2)
  | rt d => exact fun w2 v H l2 => h w2 v H (W.cut_trans l hb l2)
  | bk => exact fun w2 σ H l2 => h w2 σ H (W.cut_trans l hb l2)
  | ct => exact fun w2 σ H l2 => h w2 σ H (W.cut_trans l hb l2)
theorem pss_no : PSs X rest (fun _ _ _ => False) := ⟨fun _ _ _ _ _ _ h => h.elim⟩
def sNil : MS := fun e s => some (.nx, e, s)
def sSeq (a b : MS) : MS := fun e s => match a e s with
  | some (.nx, e1, s1) => b e1 s1
  | r => r
theorem ns_nil : NSs X [] sNil := fun e s fl e' s' b h hb => by
  cases h
  exact Z.PSs.imp pss_nil fun Dn σ H ⟨w, g, l, k⟩ => k w σ H ((W.le.refl w).cut b) g l
theorem ns_seq (h1 : NS X st M1) (h2 : NSs X rest M2) : NSs X (st :: rest) (sSeq M1 M2) := fun e s fl e' s' b h hb => by
  unfold sSeq at h
  split at h
  · rename_i e1 s1 e0
    refine Z.PSs.imp (pss_cons (h1 _ _ _ _ _ b e0 hb) h2.fam) fun Dn σ H ⟨w, g, l, k⟩ => ?_
    have hw : b ≤ w.ρ.length := by rw [g.lr]; exact hb
    refine ⟨w, g, l, fun w1 σ1 H1 l1 g1 sl1 => ?_⟩
    exact ⟨e1, s1, fl, e', s', b, h, by rw [← g1.lr]; exact (W.cut_eq l1 hw).1, w1, g1, sl1, k.mono l1 hw⟩
  · rename_i r hr
    refine Z.PSs.imp (pss_cons (h1 _ _ _ _ _ b h hb) pss_no) fun Dn σ H ⟨w, g, l, k⟩ => ⟨w, g, l, ?_⟩
    cases fl with
    | nx => exact absurd h (hr _ _)
    | rt d => exact k
    | bk => exact k
    | ct => exact k
def sSet (i : Nat) (m : ME) : MS := fun e s => match m e s with
  | some (d, s1) => some (.nx, e.set i (some d), s1)
  | none => none
theorem ns_set {x : Str} {p' : Pos} (i : Nat) (h : NE X ex m) (hN : X.N.Nodup) (hx : X.N[i]? = some x := by rfl) (hl : Loc X.env.scope x := by first | exact .inl rfl | exact .inr rfl) (hs : swapsWith ex (some (.Name x p')) pos.line X.env = pure false := by rfl)
    (hf : X.fn x = true ∨ X.env.scope.names.lookup x = some .local := by first | exact .inl rfl | exact .inr rfl) : NS X (.Assign [.Name x p'] ex pos) (sSet i m) := fun e s fl e' s' b hm hb => by
  unfold sSet at hm
  split at hm
  · rename_i d s1 e1
    cases hm
    exact Z.PS.imp (ps_set hN hx hl (h _ _ _ _ e1) hs hf) fun Dn σ H ⟨w, g, l, k⟩ => ⟨w, g, l, fun v w1 H1 l1 g1 v1 => k w1 _ H1 (l1.cut b) g1 ((l.up l1).put i v1)⟩
  · cases hm
def sRet (m : ME) : MS := fun e s => match m e s with
  | some (d, s1) => some (.rt d, e, s1)
  | none => none
theorem ns_ret (h : NE X ex m) : NS X (.Return (some ex) pos) (sRet m) := fun e s fl e' s' b hm hb => by
  unfold sRet at hm
  split at hm
  · rename_i d s1 e1
    cases hm
    exact Z.PS.imp (ps_ret (h _ _ _ _ e1)) fun Dn σ H ⟨w, g, l, k⟩ => ⟨w, g, l, fun v w1 H1 l1 g1 v1 => k w1 v H1 (l1.cut b) g1 v1⟩
  · cases hm
def sExpr (m : ME) : MS := fun e s => match m e s with
  | some (_, s1) => some (.nx, e, s1)
  | none => none
theorem ns_expr (h : NE X ex m) (hs : swapsWith ex none pos.line X.env = pure false := by rfl) : NS X (.Expr ex pos) (sExpr m) := fun e s fl e' s' b hm hb => by
  unfold sExpr at hm
  split at hm
  · rename_i d s1 e1
    cases hm
    exact Z.PS.imp (ps_expr (h _ _ _ _ e1) hs) fun Dn σ H ⟨w, g, l, k⟩ => ⟨w, g, l, fun v w1 H1 l1 g1 v1 => k w1 σ H1 (l1.cut b) g1 (l.up l1)⟩
  · cases hm
def sPass : MS := fun e s => some (.nx, e, s)
def sCt : MS := fun e s => some (.ct, e, s)
def sBk : MS := fun e s => some (.bk, e, s)
theorem ns_bk : NS X (.Break pos) sBk := fun e s fl e' s' b h hb => by
  cases h
  exact Z.PS.imp ps_break fun Dn σ H ⟨w, g, l, k⟩ => k w σ H ((W.le.refl w).cut b) g l
def sIf (mt : MT) (M1 M2 : MS) : MS := fun e s => match mt e s with
  | some (true, s1) => M1 e s1
  | some (false, s1) => M2 e s1
  | none => none
theorem le_len {B : Ba} {w w' : W} {s s' : Sto} {H H' : Hp} (l : w.le w') (g : Ok B w s H) (g' : Ok B w' s' H') : s.length ≤ s'.length := by
  rw [← g.lr, ← g'.lr]
  exact l.ρ.length_le
theorem ns_if (hc : NT X c mt) (h1 : NSs X body M1) (h2 : NSs X orelse M2) : NS X (.If c body orelse pos) (sIf mt M1 M2) := fun e s fl e' s' b hm hb => by
  have go : ∀ k s1, mt e s = some (k, s1) → (if k then M1 else M2) e s1 = some (fl, e', s') → PS X (.If c body orelse pos) (tS (ba X) b e s fl e' s') := fun k s1 e1 e2 => by
    refine Z.PS.imp (ps_if (hc _ _ _ _ e1) h1.fam h2.fam) fun Dn σ H ⟨w, g, l, q⟩ => ⟨w, g, l, fun w1 H1 l1 g1 => ?_⟩
    have hb1 : b ≤ s1.length := Nat.le_trans hb (le_len l1 g g1)
    have q1 := q.mono (l1.cut b) (by rw [g.lr]; exact hb)
    cases k with
    | true => exact ⟨e, s1, fl, e', s', b, e2, hb1, w1, g1, l.up l1, q1⟩
    | false => exact ⟨e, s1, fl, e', s', b, e2, hb1, w1, g1, l.up l1, q1⟩
  unfold sIf at hm
  split at hm
  · rename_i s1 e1
    exact go true s1 e1 hm
  · rename_i s1 e1
    exact go false s1 e1 hm
  · cases hm

abbrev MG := D → Lo → Option Lo
abbrev MGs := List PyData → Lo → Option Lo
def tG (B : Ba) (vs : List Nat) (s : Sto) (d : D) (e e' : Lo) : TG := fun v σ H Q => ∃ w, Ok B w s H ∧ Sl B w e σ ∧ VR B w v d ∧ ∀ σ', offv vs σ σ' → Sl B w e' σ' → Q σ' H
def tGs (B : Ba) (vs : List Nat) (s : Sto) (xs : List PyData) (e e' : Lo) : TGs := fun us σ H Q => ∃ w, Ok B w s H ∧ Sl B w e σ ∧ DpAll B.K w.F us xs ∧ ∀ σ', offv vs σ σ' → Sl B w e' σ' → Q σ' H
def NG (X : Cx) (tg : Expr) (vs : List Nat) (g : MG) : Prop := ∀ s d e e', g d e = some e' → PG X tg (tG (ba X) vs s d e e')
def NGs (X : Cx) (tgs : List Expr) (vs : List Nat) (g : MGs) : Prop := ∀ s d e e', g d e = some e' → PGs X tgs (tGs (ba X) vs s d e e')
theorem NG.fam {vs : List Nat} {g : MG} (h : NG X tg vs g) : PG X tg (fun v σ H Q => ∃ s d e e', g d e = some e' ∧ tG (ba X) vs s d e e' v σ H Q) :=
  ⟨fun pins sh σ H v u Q I r ⟨s, d, e, e', m, q⟩ => (h s d e e' m).run pins sh σ H v u Q I r q⟩
def gName (k : Nat) : MG := fun d e => some (e.set k (some d))
def gTup (gs : MGs) : MG := fun d e => match d with
  | .d (.tuple xs) => gs xs e
  | _ => none
def gsNil : MGs := fun xs e => match xs with
  | [] => some e
  | _ => none
def gsCons (g : MG) (gs : MGs) : MGs := fun xs e => match xs with
  | x :: xs => match g (.d x) e with
    | some e1 => gs xs e1
    | none => none
  | [] => none
theorem ng_name {y : Str} {vs : List Nat} (k : Nat) (hN : X.N.Nodup) (hv : k ∈ vs := by simp) (hi : X.N[k]? = some y := by rfl) (hx : Loc X.env.scope y := by first | exact .inl rfl | exact .inr rfl)
    (hf : X.fn y = true ∨ X.env.scope.names.lookup y = some .local := by first | exact .inl rfl | exact .inr rfl) : NG X (.Name y pos) vs (gName k) := fun s d e e' h => by
  cases h
  exact Z.PG.imp (pg_name hN hi hx hf) fun v σ H Q ⟨w, g, l, hv1, q⟩ => q _ (Z.offv_set hv) (l.put k hv1)
theorem ngs_nil {vs : List Nat} : NGs X [] vs gsNil := fun s d e e' h => by
  unfold gsNil at h
  split at h
  · cases h
    exact Z.PGs.imp pgs_nil fun us σ H Q ⟨w, g, l, hv1, q⟩ => by
      cases hv1
      exact ⟨rfl, q σ ⟨rfl, fun _ _ => rfl⟩ l⟩
  · cases h
theorem ngs_cons {vs : List Nat} {t : Expr} {ts : List Expr} {g : MG} {gs : MGs} (h1 : NG X t vs g) (h2 : NGs X ts vs gs) (hs : (assignEach (t :: ts) X.env).map (·.2) = assign t X.env :: (assignEach ts X.env).map (·.2) := by rfl) : NGs X (t :: ts) vs (gsCons g gs) := fun s d e e' h => by
  unfold gsCons at h
  split at h
  · rename_i x xs
    split at h
    · rename_i e1 h0
      refine Z.PGs.imp (pgs_cons (h1 s _ _ _ h0) (h2 s _ _ _ h) hs) fun us σ H Q ⟨w, g, l, hv1, q⟩ => ?_
      cases hv1 with
      | cons v1 v2 => exact ⟨_, _, rfl, w, g, l, v1, fun σ1 o1 l1 => ⟨w, g, l1, v2, fun σ2 o2 l2 => q σ2 (o1.trans o2) l2⟩⟩
    · cases h
  · cases h
/-- as many parts as names -/
def gsLenOk (n : Nat) (gs : MGs) : MGs := fun xs e => if xs.length = n then gs xs e else none
theorem ng_tup {vs : List Nat} {ts : List Expr} {k n : Nat} {gs : MGs} (h : NGs X ts vs gs) (hc : X.calm = true := by rfl) (hn : (assignEach ts X.env).length = n := by rfl) (hst : (assignEach ts X.env).findIdx? (·.1) = none := by rfl) : NG X (.Tuple ts k pos) vs (gTup (gsLenOk n gs)) := fun s d e e' hm => by
  unfold gTup at hm
  split at hm
  · rename_i xs
    unfold gsLenOk at hm
    split at hm
    · rename_i hl
      refine Z.PG.imp (pg_tup hc (h s _ _ _ hm) (hn.trans hl.symm) hst) fun v σ H Q ⟨w, g, l, hv1, q⟩ => ?_
      obtain ⟨c, us, rfl, h1, h2⟩ := dp_tup hv1
      exact ⟨c, us, rfl, g.ext.t h1, dpsLen h2, w, g, l, h2, q⟩
    · cases hm
  · cases hm
def sAsg (g : MG) (m : ME) : MS := fun e s => match m e s with
  | some (d, s1) => match g d e with
    | some e1 => some (.nx, e1, s1)
    | none => none
  | none => none
theorem ns_asg {vs : List Nat} {g : MG} (he : NE X ex m) (hg : NG X tg vs g) (hs : swapsWithSole [tg] ex pos.line X.env = pure false := by rfl) (hw : swappedStores [tg] ex X.env = pure none := by rfl) (h1 : (assignEach [tg] X.env).map (·.2) = [assign tg X.env] := by rfl) :
    NS X (.Assign [tg] ex pos) (sAsg g m) := fun e s fl e' s' b hm hb => by
  unfold sAsg at hm
  split at hm
  · rename_i d s1 e1
    split at hm
    · rename_i e2 h2
      cases hm
      exact Z.PS.imp (ps_asg (he _ _ _ _ e1) (hg s' _ _ _ h2) hs hw h1) fun Dn σ H ⟨w, g, l, k⟩ => ⟨w, g, l, fun v w1 H1 l1 g1 v1 => ⟨w1, g1, l.up l1, v1, fun σ' o l' => k w1 σ' H1 (l1.cut b) g1 l'⟩⟩
    · cases hm
  · cases hm
/-- x, y = a, b -/
def sPar (is : List Nat) (ms : MA) : MS := fun e s => match ms e s with
  | some (ds, s1) => if ds.length = is.length then some (.nx, (is.zip ds).foldl (fun e z => e.set z.1 (some z.2)) e, s1) else none
  | none => none
theorem ns_par2 {x y : Str} {px py pt pt2 : Pos} {kt k2 : Nat} (i j : Nat) (ha : NA X [a, b] ms) (hN : X.N.Nodup) (hij : i ≠ j := by decide) (hc : X.calm = true := by rfl) (hx : X.N[i]? = some x := by rfl) (hy : X.N[j]? = some y := by rfl)
    (hlx : X.env.scope.names.lookup x = some .local := by rfl) (hly : X.env.scope.names.lookup y = some .local := by rfl)
    (hw : swappedStores [.Tuple [.Name x px, .Name y py] kt pt] (.Tuple [a, b] k2 pt2) X.env = pure (some [x, y]) := by rfl) (hs : swapsWithSole [.Tuple [.Name x px, .Name y py] kt pt] (.Tuple [a, b] k2 pt2) pos.line X.env = pure false := by rfl) :
    NS X (.Assign [.Tuple [.Name x px, .Name y py] kt pt] (.Tuple [a, b] k2 pt2) pos) (sPar [i, j] ms) := fun e s fl e' s' bb hm hb => by
  unfold sPar at hm
  split at hm
  · rename_i ds s1 e1
    split at hm
    · rename_i hl
      cases hm
      match ds, hl with
      | [d1, d2], _ =>
        refine Z.PS.imp (ps_par hc hN hx hy hij hlx hly (ha _ _ _ _ e1) hw hs) fun Dn σ H ⟨w, g, l, k⟩ => ⟨w, g, l, fun us w1 H1 l1 g1 v1 => ?_⟩
        obtain ⟨u, v, rfl, h1, h2⟩ := vrs2 v1
        exact ⟨u, v, rfl, k w1 _ H1 (l1.cut bb) g1 (((l.up l1).put i h1).put j h2)⟩
    · cases hm
  · cases hm
theorem vrs3 {B : Ba} {w : W} {us : List V} {d d' d2 : D} (h : VRs B w us [d, d', d2]) : ∃ u v z, us = [u, v, z] ∧ VR B w u d ∧ VR B w v d' ∧ VR B w z d2 := by
  match us, h with
  | [u, v, z], ⟨h1, h2, h3, _⟩ => exact ⟨u, v, z, rfl, h1, h2, h3⟩
theorem ns_par3 {x y z : Str} {px py pz pt pt2 : Pos} {kt k2 : Nat} (i j k : Nat) (ha : NA X [a, b, c] ms) (hN : X.N.Nodup) (hij : i ≠ j := by decide) (hik : i ≠ k := by decide) (hjk : j ≠ k := by decide) (hc : X.calm = true := by rfl) (hx : X.N[i]? = some x := by rfl) (hy : X.N[j]? = some y := by rfl) (hz : X.N[k]? = some z := by rfl)
    (hlx : X.env.scope.names.lookup x = some .local := by rfl) (hly : X.env.scope.names.lookup y = some .local := by rfl) (hlz : X.env.scope.names.lookup z = some .local := by rfl)
    (hw : swappedStores [.Tuple [.Name x px, .Name y py, .Name z pz] kt pt] (.Tuple [a, b, c] k2 pt2) X.env = pure (some [x, y, z]) := by rfl) (hs : swapsWithSole [.Tuple [.Name x px, .Name y py, .Name z pz] kt pt] (.Tuple [a, b, c] k2 pt2) pos.line X.env = pure false := by rfl) :
    NS X (.Assign [.Tuple [.Name x px, .Name y py, .Name z pz] kt pt] (.Tuple [a, b, c] k2 pt2) pos) (sPar [i, j, k] ms) := fun e s fl e' s' bb hm hb => by
  unfold sPar at hm
  split at hm
  · rename_i ds s1 e1
    split at hm
    · rename_i hl
      cases hm
      match ds, hl with
      | [d1, d2, d3], _ =>
        refine Z.PS.imp (ps_par3 hc hN hx hy hz hij hik hjk hlx hly hlz (ha _ _ _ _ e1) hw hs) fun Dn σ H ⟨w, g, l, q⟩ => ⟨w, g, l, fun us w1 H1 l1 g1 v1 => ?_⟩
        obtain ⟨u, v, z, rfl, h1, h2, h3⟩ := vrs3 v1
        exact ⟨u, v, z, rfl, q w1 _ H1 (l1.cut bb) g1 ((((l.up l1).put i h1).put j h2).put k h3)⟩
    · cases hm
  · cases hm

/-- an object of the store changes: what PSet, methods do -/
def putL (s : Sto) (o : D) (i : Int) (d : D) : Option Sto := match o with
  | .r j => match s[j]? with
    | some (.lst ds) => match ixN ds.length i with
      | some k => some (s.set j (.lst (ds.set k d)))
      | none => none
    | _ => none
  | _ => none
theorem chg_lst {B : Ba} {w : W} {s : Sto} {H : Hp} {v : V} {j : Nat} {ds : List D} (g : Ok B w s H) (hv : VR B w v (.r j)) (hs : s[j]? = some (.lst ds)) :
    ∃ a vs, v = .ref a ∧ H a = some (.lst vs) ∧ VRs B w vs ds ∧ ∀ ds' vs', VRs B w vs' ds' → Ok B w (s.set j (.lst ds')) (upd H a (.lst vs')) := by
  obtain ⟨a, h1, rfl⟩ := hv
  obtain ⟨hF, vs, h2, h3⟩ := g.ce _ _ a hs h1
  exact ⟨a, vs, rfl, h2, h3, fun ds' vs' h => g.chg h1 hF ⟨hF, vs', upd_same, h⟩⟩
def sPut (ma mi mv : ME) : MS := fun e s => match mv e s with
  | some (d, s1) => match ma e s1 with
    | some (o, s2) => match mi e s2 with
      | some (.d (.int i), s3) => match putL s3 o i d with
        | some s4 => some (.nx, e, s4)
        | none => none
      | _ => none
    | none => none
  | none => none
theorem ns_put {tpos : Pos} {mi mv : ME} (hv : NE X ex mv) (ha : NE X a ma) (hi : NE X b mi)
    (hsub : ∀ v, assign (.Subscript a b tpos) X.env v = (do
      let ov ← holding [v] (eval a X.env)
      let iv ← holding [v, ov] (eval b X.env)
      standAt tpos
      holding [v, ov, iv] (setItem ov iv v)
      release [v, ov, iv] []) := by intro _; rfl)
    (hs : swapsWithSole [.Subscript a b tpos] ex pos.line X.env = pure false := by rfl) (hw : swappedStores [.Subscript a b tpos] ex X.env = pure none := by rfl) (h1 : (assignEach [.Subscript a b tpos] X.env).map (·.2) = [assign (.Subscript a b tpos) X.env] := by rfl) :
    NS X (.Assign [.Subscript a b tpos] ex pos) (sPut ma mi mv) := fun e s fl e' s' bb hm hb => by
  unfold sPut at hm
  split at hm
  · rename_i d s1 e1
    split at hm
    · rename_i o s2 e2
      split at hm
      · rename_i i s3 e3
        split at hm
        · rename_i s4 e4
          cases hm
          refine Z.PS.imp (ps_asg (hv _ _ _ _ e1) (pg_sub (ha _ _ _ _ e2) (hi _ _ _ _ e3) set_list hsub) hs hw h1) fun Dn σ H ⟨w, g, l, k⟩ => ⟨w, g, l, fun v w1 H1 l1 g1 v1 => ⟨w1, g1, l.up l1, fun u w2 H2 l2 g2 v2 => ⟨w2, g2, (l.up l1).up l2, fun z w3 H3 l3 g3 v3 => ?_⟩⟩⟩
          cases vr_int v3
          unfold putL at e4
          split at e4
          · rename_i j
            split at e4
            · rename_i ds e5
              split at e4
              · rename_i kk e6
                cases e4
                obtain ⟨a, vs, rfl, h4, h5, h6⟩ := chg_lst g3 (v2.up l3) e5
                refine ⟨a, vs, i, kk, rfl, rfl, h4, by rw [h5.len]; exact e6, ?_⟩
                exact k w3 σ _ (((l1.trans l2).trans l3).cut bb) (h6 _ _ (h5.set ((v1.up l2).up l3) kk)) (((l.up l1).up l2).up l3)
              · cases e4
            · cases e4
          · cases e4
        · cases hm
      · cases hm
    · cases hm
  · cases hm
/-- x op= e, for a name -/
def IOpS (X : Cx) (op : Operator) (f : FB) : Prop := ∀ s a b z s', f s a b = some (z, s') → ∃ q, OpR X (inplaceOp op) q ∧ BiN (ba X) q s a b z s'
def sAug (i : Nat) (f : FB) (m : ME) : MS := fun e s => match e[i]? with
  | some (some u) => match m e s with
    | some (d, s1) => match f s1 u d with
      | some (z, s2) => some (.nx, e.set i (some z), s2)
      | none => none
    | none => none
  | _ => none
theorem ns_aug {op : Operator} {f : FB} {x : Str} {p' : Pos} (ho : IOpS X op f) (i : Nat) (h : NE X ex m) (hN : X.N.Nodup) (hx : X.N[i]? = some x := by rfl) (hl : Loc X.env.scope x := by first | exact .inl rfl | exact .inr rfl)
    (hf : X.fn x = true ∨ X.env.scope.names.lookup x = some .local := by first | exact .inl rfl | exact .inr rfl) : NS X (.AugAssign (.Name x p') op ex pos) (sAug i f m) := fun e s fl e' s' b hm hb => by
  unfold sAug at hm
  split at hm
  · rename_i u e0
    split at hm
    · rename_i d s1 e1
      split at hm
      · rename_i z s2 e2
        cases hm
        obtain ⟨q, hq, hB⟩ := ho _ _ _ _ _ e2
        refine Z.PS.imp (ps_aug hN hx hl (h _ _ _ _ e1) hq hf) fun Dn σ H ⟨w, g, l, k⟩ => ?_
        obtain ⟨v0, h0, hv0⟩ := l.sl i u e0
        refine ⟨v0, h0, w, g, l, fun v w1 H1 l1 g1 v1 => ?_⟩
        exact hB v0 v w1 H1 _ g1 (hv0.up l1) v1 fun x w2 H2 l2 g2 v2 => k w2 _ H2 ((l1.trans l2).cut b) g2 (((l.up l1).up l2).put i v2)
      · cases hm
    · cases hm
  · cases hm
/-- += : a number, a text; a list grows -/
def oIadd : FB := fun s a b => match a, b with
  | .d (.int i), .d (.int j) => some (.d (.int (i + j)), s)
  | .d (.str x), .d (.str y) => if x.length + y.length ≤ lim then some (.d (.str (x ++ y)), s) else none
  | .r j, b => match s[j]? with
    | some (.lst ds) => match asL s b with
      | some es => if ds.length + es.length ≤ lim then some (.r j, s.set j (.lst (ds ++ es))) else none
      | none => none
    | _ => none
  | _, _ => none
theorem io_add : IOpS X .Add oIadd := fun s a b z s' e => by
  unfold oIadd at e
  split at e
  · cases e
    exact ⟨_, iop_add, BiN.int (show Z.flat (.int _) (.int _) from rfl)⟩
  · rename_i x y
    split at e
    · rename_i hl
      cases e
      refine ⟨_, iop_add_str, fun u v w H Q g h1 h2 k => ?_⟩
      cases vr_str h1
      cases vr_str h2
      exact ⟨x, y, rfl, rfl, Nat.le_trans hl (Nat.le_of_lt lim_lt), k _ w H (W.le.refl w) g vs'⟩
    · cases e
  · rename_i j b'
    split at e
    · rename_i ds e1
      split at e
      · rename_i es e2
        split at e
        · rename_i hl
          cases e
          refine ⟨_, Z.ip_extQ, fun u v w H Q g h1 h2 k => ?_⟩
          obtain ⟨p2, zs, rfl, q2, r2⟩ := asL_ok e2 g h2
          have h1' := h1
          obtain ⟨a, vs, rfl, h4, h5, h6⟩ := chg_lst g h1 e1
          exact ⟨a, p2, vs, zs, rfl, rfl, h4, q2, by rw [h5.len, r2.len]; exact Nat.le_trans hl (Nat.le_of_lt lim_lt), k _ w _ (W.le.refl w) (h6 _ _ (h5.app r2)) h1'⟩
        · cases e
      · cases e
    · cases e
  · cases e
end
end N

namespace N
open PySem L2 PyProof.Rows
open Z (Ext dpUp dpsUp dpsLen dpsGet DxO KyD DEn Cl cut offv wipeE)

structure Safe (s s' : Sto) : Prop where
  le : s.length ≤ s'.length
  ce : ∀ (j : Nat) (c : Cell), j < s.length → s'[j]? = some c → s[j]? = some c ∨ c.below s.length
open Classical in
noncomputable def trim (s s' : Sto) : Sto := if Safe s s' then s'.take s.length else s'
/-- .. where slots refer to what is below -/
def LoBelow (n : Nat) (e : Lo) : Prop := ∀ (i j : Nat), e[i]? = some (some (D.r j)) → j < n
open Classical in
noncomputable def trimE (s : Sto) (e : Lo) (s' : Sto) : Sto := if LoBelow s.length e then trim s s' else s'
def wipeN (e : Lo) : List Nat → Lo
  | [] => e
  | v :: vs => (wipeN e vs).set v none
theorem wipeN_len (e : Lo) : ∀ vs : List Nat, (wipeN e vs).length = e.length
  | [] => rfl
  | v :: vs => by unfold wipeN; rw [List.length_set, wipeN_len e vs]
theorem wipeN_get {e : Lo} {i : Nat} {d : D} : ∀ {vs : List Nat}, (wipeN e vs)[i]? = some (some d) → e[i]? = some (some d) ∧ i ∉ vs
  | [], h => ⟨h, by simp⟩
  | v :: vs, h => by
    unfold wipeN at h
    by_cases hi : i = v
    · subst hi
      by_cases hv : i < (wipeN e vs).length
      · rw [List.getElem?_set_self hv] at h
        cases h
      · rw [List.getElem?_eq_none (by simpa using hv)] at h
        cases h
    · rw [List.getElem?_set_ne (Ne.symm hi)] at h
      obtain ⟨z1, z2⟩ := wipeN_get h
      exact ⟨z1, by simp only [List.mem_cons, not_or]; exact ⟨hi, z2⟩⟩
section
variable {B : Ba} {w w' : W} {s s' : Sto} {H H' : Hp} {e : Lo} {σ : L2.St}
theorem Safe.ok (h : Safe s s') (g : Ok B w s H) (g' : Ok B w' s' H') : Ok B (w'.take s.length) (s'.take s.length) H' :=
  g'.cut fun j c hj hc => (h.ce j c hj hc).elim (fun h2 => by
    have hj2 : j < w.ρ.length := by rw [g.lr]; exact hj
    have := (g.ce j c _ h2 (List.getElem?_eq_getElem hj2)).isBelow
    rwa [g.lr] at this) id
theorem trim_cases (g : Ok B w s H) (g' : Ok B w' s' H') : (trim s s' = s' ∧ True) ∨ (trim s s' = s'.take s.length ∧ s.length ≤ s'.length ∧ Ok B (w'.take s.length) (s'.take s.length) H') := by
  unfold trim
  split
  · rename_i h
    exact .inr ⟨rfl, h.le, h.ok g g'⟩
  · exact .inl ⟨rfl, trivial⟩
/-- behind a turn -/
theorem trimE_ok (g : Ok B w s H) (g' : Ok B w' s' H') (l : Sl B w' e σ) : ∃ w2, w2.le w' ∧ (∀ b, b ≤ s.length → (w'.take b).le w2) ∧ Ok B w2 (trimE s e s') H' ∧ Sl B w2 e σ ∧ (s.length ≤ s'.length → s.length ≤ (trimE s e s').length) := by
  unfold trimE
  split
  · rename_i hl
    rcases trim_cases g g' with ⟨h, _⟩ | ⟨h, h1, h2⟩
    · rw [h]
      exact ⟨w', W.le.refl _, fun b hb => W.take_le _ _, g', l, id⟩
    · rw [h]
      refine ⟨w'.take s.length, W.take_le _ _, fun b hb => ⟨Ext.refl _, ?_⟩, h2, l.cut hl, fun _ => by rw [List.length_take]; omega⟩
      show w'.ρ.take b <+: w'.ρ.take s.length
      rw [show w'.ρ.take b = (w'.ρ.take s.length).take b by rw [List.take_take, Nat.min_eq_left hb]]
      exact List.take_prefix _ _
  · exact ⟨w', W.le.refl _, fun b hb => W.take_le _ _, g', l, id⟩
end

/-- the list that is walked stands as it was -/
def chkOk : Option (Nat × List D) → Sto → Prop
  | none, _ => True
  | some (j, ds), s => s[j]? = some (.lst ds)
abbrev MI := Lo → Sto → Option (List D × Option (Nat × List D) × Sto)
def WkN (B : Ba) (w0 : W) (J : It) (items : List D) (ck : Option (Nat × List D)) : Prop := ∀ w s H, w0.le w → Ok B w s H → chkOk ck s →
  (∀ i x, items[i]? = some x → J.go i H ∧ ∀ v H', J.yld i H v H' → ∃ w', w.le w' ∧ Ok B w' s H' ∧ VR B w' v x) ∧ J.stop items.length H
def tI (B : Ba) (e : Lo) (s : Sto) (items : List D) (ck : Option (Nat × List D)) (s1 : Sto) : TI := fun σ H R => ∃ w, Ok B w s H ∧ Sl B w e σ ∧ ∀ J w1 H1, w.le w1 → Ok B w1 s1 H1 → chkOk ck s1 → WkN B w1 J items ck → R J H1
def NI (X : Cx) (tg it : Expr) (m : MI) : Prop := ∀ e s items ck s1, m e s = some (items, ck, s1) → PI X tg it (tI (ba X) e s items ck s1)
section
variable {X : Cx} {ex a b c tg iter elt : Expr} {es ifs : List Expr} {st : Stmt} {rest body orelse : List Stmt} {m ma mb mc : ME} {ms : MA} {mt mu : MT} {pos p : Pos} {M M1 M2 : MS}
theorem PI.imp {t t' : TI} (h : PI X tg ex t) (k : ∀ σ H Q, t' σ H Q → t σ H Q) : PI X tg ex t' := Z.PI.imp h k
theorem NI.fam {mi : MI} (h : NI X tg iter mi) : PI X tg iter (fun σ H R => ∃ e s items ck s1, mi e s = some (items, ck, s1) ∧ tI (ba X) e s items ck s1 σ H R) :=
  ⟨fun pins sh σ H R I ⟨e, s, items, ck, s1, hm, q⟩ => (h e s items ck s1 hm).run pins sh σ H R I q⟩
/-- over a list -/
def iLst (m : ME) : MI := fun e s => match m e s with
  | some (.d (.list xs), s1) => some (xs.map .d, none, s1)
  | some (.r j, s1) => match s1[j]? with
    | some (.lst ds) => some (ds, some (j, ds), s1)
    | _ => none
  | _ => none
theorem ni_lst (h : NE X ex m) : NI X tg ex (iLst m) := fun e s items ck s1 hm => by
  unfold iLst at hm
  split at hm
  · rename_i xs s2 e1
    cases hm
    refine PI.imp (pi_list (h _ _ _ _ e1)) fun σ H R ⟨w, g, l, k⟩ => ⟨w, g, l, fun v w1 H1 l1 g1 v1 => ?_⟩
    cases v1 with
    | @lst a vs _ hs ha =>
      refine ⟨a, rfl, ⟨vs, g1.ext.l hs⟩, k _ w1 H1 l1 g1 trivial fun w2 s2 H2 l2 g2 _ => ?_⟩
      have hs2 : SqL X.K H2 a vs := g2.ext.l (l2.F.l hs)
      refine ⟨fun i x hx => ?_, _, hs2, by rw [List.length_map, dpsLen ha]; exact Nat.le_refl _⟩
      rw [List.getElem?_map] at hx
      obtain ⟨y, hy, rfl⟩ := Option.map_eq_some_iff.mp hx
      obtain ⟨v, h1, h2⟩ := dpsGet ha hy
      refine ⟨⟨_, v, hs2, h1⟩, fun v' H' ⟨e3, hv⟩ => ?_⟩
      subst e3
      have : v = v' := Option.some.inj (h1.symm.trans (hv _ hs2))
      subst this
      exact ⟨w2, W.le.refl _, g2, dpUp l2.F _ _ h2⟩
  · rename_i j s2 e1
    split at hm
    · rename_i ds e2
      cases hm
      refine PI.imp (pi_list (h _ _ _ _ e1)) fun σ H R ⟨w, g, l, k⟩ => ⟨w, g, l, fun v w1 H1 l1 g1 v1 => ?_⟩
      obtain ⟨a, h1, rfl⟩ := v1
      obtain ⟨_, vs, h2, h3⟩ := g1.ce _ _ a e2 h1
      refine ⟨a, rfl, ⟨vs, .of h2⟩, k _ w1 H1 l1 g1 e2 fun w2 s2 H2 l2 g2 c2 => ?_⟩
      obtain ⟨_, us, h4, h5⟩ := g2.ce _ _ a c2 (pre_get l2.ρ h1)
      have hs2 : SqL X.K H2 a us := .of h4
      refine ⟨fun i x hx => ?_, _, hs2, by rw [h5.len]; exact Nat.le_refl _⟩
      obtain ⟨v, h6, h7⟩ := h5.get hx
      refine ⟨⟨_, v, hs2, h6⟩, fun v' H' ⟨e3, hv⟩ => ?_⟩
      subst e3
      have : v = v' := Option.some.inj (h6.symm.trans (hv _ hs2))
      subst this
      exact ⟨w2, W.le.refl _, g2, h7⟩
    · cases hm
  · cases hm
/-- over a tuple -/
def iTupl (m : ME) : MI := fun e s => match m e s with
  | some (.d (.tuple xs), s1) => some (xs.map .d, none, s1)
  | _ => none
theorem ni_tup (h : NE X ex m) : NI X tg ex (iTupl m) := fun e s items ck s1 hm => by
  unfold iTupl at hm
  split at hm
  · rename_i xs s2 e1
    cases hm
    refine PI.imp (pi_tup (h _ _ _ _ e1)) fun σ H R ⟨w, g, l, k⟩ => ⟨w, g, l, fun v w1 H1 l1 g1 v1 => ?_⟩
    obtain ⟨a, vs, rfl, hs, ha⟩ := dp_tup v1
    refine ⟨a, rfl, ⟨vs, g1.ext.t hs⟩, k _ w1 H1 l1 g1 trivial fun w2 s2 H2 l2 g2 _ => ?_⟩
    have hs2 : SqT X.K H2 a vs := g2.ext.t (l2.F.t hs)
    refine ⟨fun i x hx => ?_, _, hs2, by rw [List.length_map, dpsLen ha]; exact Nat.le_refl _⟩
    rw [List.getElem?_map] at hx
    obtain ⟨y, hy, rfl⟩ := Option.map_eq_some_iff.mp hx
    obtain ⟨v, h1, h2⟩ := dpsGet ha hy
    refine ⟨⟨_, v, hs2, h1⟩, fun v' H' ⟨e3, hv⟩ => ?_⟩
    subst e3
    have : v = v' := Option.some.inj (h1.symm.trans (hv _ hs2))
    subst this
    exact ⟨w2, W.le.refl _, g2, dpUp l2.F _ _ h2⟩
  · cases hm
/-- a tuple or a list, as it comes -/
def iSeq (m : ME) : MI := fun e s => match m e s with
  | some (.d (.tuple xs), s1) => some (xs.map .d, none, s1)
  | _ => iLst m e s
theorem ni_seq (h : NE X ex m) : NI X tg ex (iSeq m) := fun e s items ck s1 hm => by
  unfold iSeq at hm
  split at hm
  · rename_i xs s2 e1
    exact ni_tup h e s items ck s1 (by unfold iTupl; rw [e1]; exact hm)
  · exact ni_lst h e s items ck s1 hm
def rngD (lo : Int) (n : Nat) : List D := (List.range n).map fun k => .d (.int (lo + (k : Nat)))
theorem rngD_len {lo : Int} {n : Nat} : (rngD lo n).length = n := by unfold rngD; simp
theorem rngD_get {lo : Int} {n k : Nat} (h : k < n) : (rngD lo n)[k]? = some (.d (.int (lo + (k : Nat)))) := by
  unfold rngD
  rw [List.getElem?_map, List.getElem?_range h]
  rfl
theorem wk_rng {B : Ba} {w0 : W} {lo : Int} {n : Nat} : WkN B w0 (Itr lo n) (rngD lo n) none := fun w s H l g _ => by
  refine ⟨fun k x hx => ?_, Nat.le_of_eq rngD_len.symm⟩
  have hk : k < n := by
    have := (List.getElem?_eq_some_iff.mp hx).1
    rwa [rngD_len] at this
  rw [rngD_get hk] at hx
  cases hx
  refine ⟨hk, fun v H' ⟨e1, e2⟩ => ?_⟩
  subst e1 e2
  exact ⟨w, W.le.refl _, g, vi⟩
def iRng1 (ms : MA) : MI := fun e s => match ms e s with
  | some ([.d (.int j)], s1) => if -(2 ^ 62) ≤ j ∧ j < 2 ^ 62 then some (rngD 0 j.toNat, none, s1) else none
  | _ => none
def iRng2 (ms : MA) : MI := fun e s => match ms e s with
  | some ([.d (.int i), .d (.int j)], s1) => if -(2 ^ 62) ≤ i ∧ i < 2 ^ 62 ∧ -(2 ^ 62) ≤ j ∧ j < 2 ^ 62 then some (rngD i (j - i).toNat, none, s1) else none
  | _ => none
theorem ni_rng1 (h : NA X [a] ms) (hm : X.mg "range" = none) (hg : Gl X "range" := by rfl) (hs : starEach [a] X.env = [(false, eval a X.env)] := by rfl) : NI X tg (.Call (.Name "range" p) [a] [] pos) (iRng1 ms) := fun e s items ck s1 hmm => by
  unfold iRng1 at hmm
  split at hmm
  · rename_i j s2 e1
    split at hmm
    · rename_i hj
      cases hmm
      refine PI.imp (pi_range1 hg hm (h _ _ _ _ e1) hs) fun σ H R ⟨w, g, l, k⟩ => ⟨w, g, l, fun us w1 H1 l1 g1 v1 => ?_⟩
      obtain ⟨u, rfl, h1⟩ := vrs1 v1
      cases vr_int h1
      exact ⟨j, rfl, hj.1, hj.2, k _ w1 H1 l1 g1 trivial wk_rng⟩
    · cases hmm
  · cases hmm
/-- one turn: the target, the block, what is forgotten behind it -/
noncomputable def turnF (g : MG) (M : MS) (dead : List Nat) (x : D) : MS := fun e s => match g x e with
  | some e1 => match M e1 s with
    | some (.nx, e2, s2) => some (.nx, wipeN e2 dead, trimE s (wipeN e2 dead) s2)
    | some (.ct, e2, s2) => some (.nx, wipeN e2 dead, trimE s (wipeN e2 dead) s2)
    | r => r
  | none => none
open Classical in
noncomputable def forL (ck : Option (Nat × List D)) (T : D → MS) : List D → MS
  | [] => fun e s => if chkOk ck s then some (.nx, e, s) else none
  | x :: xs => fun e s => if chkOk ck s then match T x e s with
      | some (.nx, e1, s1) => forL ck T xs e1 s1
      | some (.bk, e1, s1) => some (.nx, e1, s1)
      | some (.rt d, e1, s1) => some (.rt d, e1, s1)
      | _ => none
    else none
noncomputable def sFor (mi : MI) (g : MG) (M : MS) (dead : List Nat) : MS := fun e s => match mi e s with
  | some (items, ck, s1) => forL ck (turnF g M dead) items e s1
  | none => none
theorem W.le.of_take {w w' : W} {n : Nat} (h : (w.take n).le w') (hn : w.ρ.length = n) : w.le w' := by
  refine ⟨h.F, ?_⟩
  have k := h.ρ
  rw [show (w.take n).ρ = w.ρ.take n from rfl, List.take_of_length_le (by omega)] at k
  exact k
theorem W.take_take {w w' : W} {b n : Nat} (h : (w.take n).le w') (hb : b ≤ n) : (w.take b).le w' := by
  refine ⟨h.F, List.IsPrefix.trans ?_ h.ρ⟩
  show w.ρ.take b <+: w.ρ.take n
  rw [show w.ρ.take b = (w.ρ.take n).take b by rw [List.take_take, Nat.min_eq_left hb]]
  exact List.take_prefix _ _
theorem ns_for {mi : MI} {vs : List Nat} {g : MG} {dead : List Nat} (hi : NI X tg iter mi) (hg : NG X tg vs g) (hb : NSs X body M) (hp : PassesOwn (model X.prog X.w) X.A X.env X.xe) (hc : X.calm = true := by rfl) (hs : ∀ x, foldedSetIterable iter X.env x = pure x := by intro _; rfl) :
    NS X (.For tg iter body [] pos) (sFor mi g M dead) := fun e s fl e' s' b hm hbs => by
  unfold sFor at hm
  split at hm
  · rename_i items ck s1 e1
    refine Z.PS.imp (ps_for hp hc (hi _ _ _ _ _ e1) hg.fam hb.fam hs) fun Dn σ H ⟨w, G, l, k⟩ => ⟨w, G, l, fun J w1 H1 l1 g1 ck1 wk => ?_⟩
    have hn : w1.ρ.length = s1.length := g1.lr
    have hbn : b ≤ s1.length := Nat.le_trans hbs (le_len l1 G g1)
    have k1 := k.mono (l1.cut b) (by rw [G.lr]; exact hbs)
    refine ⟨fun i m σ' H' => m = items.length - i ∧ i ≤ items.length ∧ ∃ e2 s2 w2, forL ck (turnF g M dead) (items.drop i) e2 s2 = some (fl, e', s') ∧ w1.le w2 ∧ s1.length ≤ s2.length ∧ Ok (ba X) w2 s2 H' ∧ Sl (ba X) w2 e2 σ',
      ⟨_, rfl, Nat.zero_le _, e, s1, w1, hm, W.le.refl _, Nat.le_refl _, g1, l.up l1⟩, ?_⟩
    rintro i m σ' H' ⟨rfl, hi', e2, s2, w2, hf, l2, n2, g2, sl2⟩
    by_cases hlt : i < items.length
    · rw [List.drop_eq_getElem_cons hlt] at hf
      unfold forL at hf
      split at hf
      · rename_i hck
        obtain ⟨wk1, _⟩ := wk w2 s2 H' l2 g2 hck
        obtain ⟨go, yl⟩ := wk1 i items[i] (List.getElem?_eq_getElem hlt)
        refine .inr ⟨go, fun σ3 H3 => ∃ e3 s3 w3, forL ck (turnF g M dead) (items.drop (i + 1)) e3 s3 = some (fl, e', s') ∧ w1.le w3 ∧ s1.length ≤ s3.length ∧ Ok (ba X) w3 s3 H3 ∧ Sl (ba X) w3 e3 σ3,
          fun σ3 H3 h3 => ⟨items.length - (i + 1), by omega, rfl, hlt, h3⟩, fun v H4 y => ?_⟩
        obtain ⟨w4, l4, g4, v4⟩ := yl v H4 y
        have sl4 := sl2.up l4
        have l14 := l2.trans l4
        have n4 : s1.length ≤ w4.ρ.length := by rw [g4.lr]; exact n2
        -- one turn
        unfold turnF at hf
        cases hgx : g items[i] e2 with
        | none => rw [hgx] at hf; cases hf
        | some e3 =>
          rw [hgx] at hf
          refine ⟨s2, _, _, _, hgx, w4, g4, sl4, v4, fun σ5 o l5 => ?_⟩
          cases hM : M e3 s2 with
          | none => simp only [hM] at hf; cases hf
          | some z =>
            obtain ⟨f2, e5, s5⟩ := z
            simp only [hM] at hf
            refine ⟨_, _, _, _, _, s1.length, hM, n2, w4, g4, l5, ?_⟩
            have back : ∀ {w' : W}, (w4.take s1.length).le w' → w1.le w' := fun h => by
              have h0 : (w1.take s1.length).le w4 := l14.cut _
              exact W.le.of_take (W.cut_trans h0 (by omega) h) hn
            have next : ∀ w' σ' H', (w4.take s1.length).le w' → Ok (ba X) w' s5 H' → Sl (ba X) w' e5 σ' → forL ck (turnF g M dead) (items.drop (i + 1)) (wipeN e5 dead) (trimE s2 (wipeN e5 dead) s5) = some (fl, e', s') →
                ∃ e3 s3 w3, forL ck (turnF g M dead) (items.drop (i + 1)) e3 s3 = some (fl, e', s') ∧ w1.le w3 ∧ s1.length ≤ s3.length ∧ Ok (ba X) w3 s3 H' ∧ Sl (ba X) w3 e3 σ' := fun w' σ' H' lw gw sw hf' => by
              have sw2 : Sl (ba X) w' (wipeN e5 dead) σ' := sw.wk (wipeN_len _ _) fun i d h => (wipeN_get h).1
              obtain ⟨w6, a1, a2, a3, a4, a5⟩ := trimE_ok (s := s2) g4 gw sw2
              refine ⟨_, _, w6, hf', ?_, ?_, a3, a4⟩
              · have h0 : (w1.take s1.length).le w' := (back lw).cut _
                exact W.le.of_take (W.cut_trans h0 (by omega) (a2 _ n2)) hn
              · have h1 := (W.cut_eq lw n4).1
                have h2 := (W.cut_eq (a2 _ n2) h1).1
                rw [a3.lr] at h2
                exact h2
            cases f2 with
            | nx => exact fun w' σ' H' lw gw sw => next w' σ' H' lw gw sw hf
            | ct => exact fun w' σ' H' lw gw sw => next w' σ' H' lw gw sw hf
            | rt d =>
              cases hf
              exact fun w' v H' lw gw vw => k1 w' v H' ((back lw).cut b) gw vw
            | bk =>
              cases hf
              exact fun w' σ' H' lw gw sw => k1 w' σ' H' ((back lw).cut b) gw sw
      · cases hf
    · have e : i = items.length := by omega
      subst e
      rw [List.drop_length] at hf
      unfold forL at hf
      split at hf
      · rename_i hck
        cases hf
        obtain ⟨_, w2'⟩ := wk w2 _ H' l2 g2 hck
        exact .inl ⟨w2', k1 w2 σ' H' (l2.cut b) g2 sl2⟩
      · cases hf
  · cases hm

noncomputable def whileL (mt : MT) (M : MS) (dead : List Nat) : Nat → MS
  | 0 => fun _ _ => none
  | n + 1 => fun e s => match mt e s with
    | some (true, s1) => match M e s1 with
      | some (.nx, e2, s2) => whileL mt M dead n (wipeN e2 dead) (trimE s (wipeN e2 dead) s2)
      | some (.ct, e2, s2) => whileL mt M dead n (wipeN e2 dead) (trimE s (wipeN e2 dead) s2)
      | some (.bk, e2, s2) => some (.nx, e2, s2)
      | some (.rt d, e2, s2) => some (.rt d, e2, s2)
      | none => none
    | some (false, s1) => some (.nx, e, s1)
    | none => none
noncomputable def sWhile (mt : MT) (M : MS) (dead : List Nat) : MS := fun e s => whileL mt M dead (2 ^ 64) e s
theorem ns_while {dead : List Nat} (hc : NT X c mt) (hb : NSs X body M) (hp : PassesOwn (model X.prog X.w) X.A X.env X.xe) : NS X (.While c body [] pos) (sWhile mt M dead) := fun e s fl e' s' b hm hbs => by
  refine Z.PS.imp (ps_while hp hc.fam hb.fam) fun Dn σ H ⟨w, G, l, k⟩ => ?_
  have hn : w.ρ.length = s.length := G.lr
  refine ⟨fun m σ' H' => ∃ e2 s2 w2, whileL mt M dead m e2 s2 = some (fl, e', s') ∧ w.le w2 ∧ s.length ≤ s2.length ∧ Ok (ba X) w2 s2 H' ∧ Sl (ba X) w2 e2 σ',
    ⟨_, e, s, w, hm, W.le.refl _, Nat.le_refl _, G, l⟩, ?_⟩
  rintro m σ' H' ⟨e2, s2, w2, hf, l2, n2, g2, sl2⟩
  cases m with
  | zero => cases hf
  | succ m =>
    unfold whileL at hf
    cases ht : mt e2 s2 with
    | none => rw [ht] at hf; cases hf
    | some z =>
      obtain ⟨kk, s3⟩ := z
      rw [ht] at hf
      refine ⟨e2, s2, kk, s3, ht, w2, g2, sl2, fun w3 H3 l3 g3 => ?_⟩
      have l13 := l2.trans l3
      have sl3 := sl2.up l3
      cases kk with
      | false =>
        dsimp only
        rw [if_neg Bool.false_ne_true]
        cases hf
        exact k w3 σ' H3 (l13.cut b) g3 sl3
      | true =>
        dsimp only
        rw [if_pos rfl]
        have n3 : s.length ≤ s3.length := Nat.le_trans n2 (le_len l3 g2 g3)
        refine ⟨fun σ5 H5 => ∃ e2 s2 w2, whileL mt M dead m e2 s2 = some (fl, e', s') ∧ w.le w2 ∧ s.length ≤ s2.length ∧ Ok (ba X) w2 s2 H5 ∧ Sl (ba X) w2 e2 σ5, fun σ5 H5 h5 => ⟨m, Nat.lt_succ_self m, h5⟩, ?_⟩
        cases hM : M e2 s3 with
        | none => simp only [hM] at hf; cases hf
        | some z =>
          obtain ⟨f2, e5, s5⟩ := z
          simp only [hM] at hf
          refine ⟨_, _, _, _, _, s.length, hM, n3, w3, g3, sl3, ?_⟩
          have n3' : s.length ≤ w3.ρ.length := by rw [g3.lr]; exact n3
          have back : ∀ {w' : W}, (w3.take s.length).le w' → w.le w' := fun h => by
            have h0 : (w.take s.length).le w3 := l13.cut _
            exact W.le.of_take (W.cut_trans h0 (by omega) h) hn
          have next : ∀ w' σ' H', (w3.take s.length).le w' → Ok (ba X) w' s5 H' → Sl (ba X) w' e5 σ' → whileL mt M dead m (wipeN e5 dead) (trimE s2 (wipeN e5 dead) s5) = some (fl, e', s') →
              ∃ e2 s2 w2, whileL mt M dead m e2 s2 = some (fl, e', s') ∧ w.le w2 ∧ s.length ≤ s2.length ∧ Ok (ba X) w2 s2 H' ∧ Sl (ba X) w2 e2 σ' := fun w' σ' H' lw gw sw hf' => by
            have sw2 : Sl (ba X) w' (wipeN e5 dead) σ' := sw.wk (wipeN_len _ _) fun i d h => (wipeN_get h).1
            obtain ⟨w6, a1, a2, a3, a4, a5⟩ := trimE_ok (s := s2) g2 gw sw2
            refine ⟨_, _, w6, hf', ?_, ?_, a3, a4⟩
            · have h0 : (w.take s.length).le w' := (back lw).cut _
              exact W.le.of_take (W.cut_trans h0 (by omega) (a2 _ n2)) hn
            · have h1 := (W.cut_eq lw n3').1
              have h2 := (W.cut_eq (a2 _ n2) h1).1
              rw [a3.lr] at h2
              exact h2
          cases f2 with
          | nx => exact fun w' σ' H' lw gw sw => next w' σ' H' lw gw sw hf
          | ct => exact fun w' σ' H' lw gw sw => next w' σ' H' lw gw sw hf
          | rt d =>
            cases hf
            exact fun w' v H' lw gw vw => k w' v H' ((back lw).cut b) gw vw
          | bk =>
            cases hf
            exact fun w' σ' H' lw gw sw => k w' σ' H' ((back lw).cut b) gw sw
end
end N

namespace N
open PySem L2 PyProof.Rows
open Z (Ext dpUp dpsUp dpsLen dpsGet DxO KyD DEn Cl cut offv bl Dfn)

open Classical in
noncomputable def lcL (k : Nat) (ck : Option (Nat × List D)) (g : MG) (mt : MT) (el : ME) (e0 : Lo) : List D → Sto → Option Sto
  | [], s => if chkOk ck s then some s else none
  | x :: xs, s => if chkOk ck s then match g x e0 with
      | some e1 => match mt e1 s with
        | some (true, s1) => match el e1 s1 with
          | some (y, s2) => match s2[k]? with
            | some (.lst acc) => if acc.length < lim then lcL k ck g mt el e0 xs (s2.set k (.lst (acc ++ [y]))) else none
            | _ => none
          | none => none
        | some (false, s1) => lcL k ck g mt el e0 xs s1
        | none => none
      | none => none
    else none
noncomputable def lcFin (own : Bool) (s1 s2 : Sto) : Option (D × Sto) := match s2[s1.length]? with
  | some (.lst ds) => if own then some (.r s1.length, s2) else match data ds with
    | some xs => some (.d (.list xs), trim s1 (s2.set s1.length .gone))
    | none => none
  | _ => none
noncomputable def eLc (own : Bool) (vs : List Nat) (mi : MI) (g : MG) (mt : MT) (el : ME) : ME := fun e s => match mi e s with
  | some (items, ck, s1) => match lcL s1.length ck g mt el (wipeN e vs) items (s1 ++ [.lst []]) with
    | some s2 => lcFin own s1 s2
    | none => none
  | none => none
def tTrue : MT := fun _ s => some (true, s)
def NTs (X : Cx) (ifs : List Expr) (m : MT) : Prop := ∀ e s b s', m e s = some (b, s') → PTs X ifs (tT (ba X) e s b s')
theorem nts_nil {X : Cx} : NTs X [] tTrue := fun e s b s' h => by
  cases h
  exact ⟨fun pins sh σ H Q I ⟨w, g, l, q⟩ => pts_nil.run pins sh σ H Q I (q w H (W.le.refl w) g)⟩
theorem nts_one {X : Cx} {c : Expr} {m : MT} (h : NT X c m) : NTs X [c] m := fun e s b s' hm => pts_one (h _ _ _ _ hm)
section
variable {B : Ba} {w w' : W} {s s' : Sto} {H H' : Hp} {e : Lo} {σ : L2.St}
theorem Sl.wipe (h : Sl B w e σ) (vs : List Nat) : Sl B w (wipeN e vs) (L2.wipe σ vs) := ⟨by rw [wipeN_len, wipe_length]; exact h.le, fun i d q => by
  obtain ⟨z1, z2⟩ := wipeN_get q
  obtain ⟨v, h1, h2⟩ := h.sl i d z1
  exact ⟨v, by rw [Z.wipe_keep z2]; exact h1, h2⟩⟩
theorem mkFin_ok {own : Bool} {s1 s2 : Sto} {w1 w2 : W} {H1 H2 : Hp} {d : D} {p : Addr} (h : lcFin own s1 s2 = some (d, s')) (g1 : Ok B w1 s1 H1) (l : w1.le w2) (hp : w2.ρ[s1.length]? = some p) (g2 : Ok B w2 s2 H2) : ∃ w3, w1.le w3 ∧ Ok B w3 s' H2 ∧ VR B w3 (.ref p) d := by
  unfold lcFin at h
  split at h
  · rename_i ds e1
    split at h
    · cases h
      exact ⟨w2, l, g2, p, hp, rfl⟩
    · split at h
      · rename_i xs e2
        cases h
        rw [data_eq e2] at e1
        obtain ⟨w3, l3, g3, d3⟩ := g2.freeze e1 hp
        rcases trim_cases g1 g3 with ⟨h, _⟩ | ⟨h, h1, h2⟩
        · rw [h]
          exact ⟨w3, l.trans l3, g3, d3⟩
        · rw [h]
          refine ⟨w3.take s1.length, ⟨(l.trans l3).F, ?_⟩, h2, d3⟩
          obtain ⟨m, hm⟩ := (l.trans l3).ρ
          show w1.ρ <+: w3.ρ.take s1.length
          rw [← hm, ← g1.lr, List.take_append_of_le_length (Nat.le_refl _), List.take_length]
          exact List.prefix_rfl
      · cases h
  · cases h
end
section
variable {X : Cx} {ex a b c tg iter elt : Expr} {es ifs : List Expr} {st : Stmt} {rest body orelse : List Stmt} {m ma mb mc : ME} {ms : MA} {mt mu : MT} {pos p : Pos} {M M1 M2 : MS}
theorem lc_run {mi : MI} {g : MG} {el : ME} {own : Bool} {vs : List Nat} {e : Lo} {s s' : Sto} {d : D} (h : eLc own vs mi g mt el e s = some (d, s')) {wi : TI} (hw : ∀ items ck s1 σ H R, mi e s = some (items, ck, s1) → tI (ba X) e s items ck s1 σ H R → wi σ H R)
    {G : TG} {TT' : TT} {EE : TE} (hG : ∀ s d e e' v σ H Q, g d e = some e' → tG (ba X) vs s d e e' v σ H Q → G v σ H Q) (hT : ∀ e s b s' σ H Q, mt e s = some (b, s') → tT (ba X) e s b s' σ H Q → TT' σ H Q) (hE : ∀ e s d s' σ H Q, el e s = some (d, s') → tE (ba X) e s d s' σ H Q → EE σ H Q) :
    ∀ σ H Q, tE (ba X) e s d s' σ H Q → tLc wi G TT' EE vs σ H Q := by
  intro σ H Q ⟨w, g0, l, k⟩
  unfold eLc at h
  split at h
  · rename_i items ck s1 e1
    split at h
    · rename_i sF eF
      refine hw _ _ _ _ _ _ e1 ⟨w, g0, l, fun J w1 H1 l1 g1 ck1 wk D hD => ?_⟩
      have gD : Ok (ba X) ⟨w1.F, w1.ρ ++ [D]⟩ (s1 ++ [.lst []]) (upd H1 D (.lst [])) := g1.new hD ⟨ext_none g1.ext hD, [], upd_same, trivial⟩
      have lD : w1.le ⟨w1.F, w1.ρ ++ [D]⟩ := Ok.new_le
      have atD : (w1.ρ ++ [D])[s1.length]? = some D := by rw [← g1.lr, List.getElem?_append_right (Nat.le_refl _), Nat.sub_self]; rfl
      refine ⟨fun i m H' => m = items.length - i ∧ i ≤ items.length ∧ ∃ s2 w2, lcL s1.length ck g mt el (wipeN e vs) (items.drop i) s2 = some sF ∧ W.le ⟨w1.F, w1.ρ ++ [D]⟩ w2 ∧ Ok (ba X) w2 s2 H', ⟨_, rfl, Nat.zero_le _, _, _, eF, W.le.refl _, gD⟩, ?_⟩
      rintro i m H' ⟨rfl, hi', s2, w2, hf, l2, g2⟩
      have slw : ∀ {w' : W}, W.le ⟨w1.F, w1.ρ ++ [D]⟩ w' → Sl (ba X) w' (wipeN e vs) (wipe σ vs) := fun h => (l.up ((l1.trans lD).trans h)).wipe vs
      by_cases hlt : i < items.length
      · rw [List.drop_eq_getElem_cons hlt] at hf
        unfold lcL at hf
        split at hf
        · rename_i hck
          obtain ⟨wk1, _⟩ := wk w2 s2 H' (lD.trans l2) g2 hck
          obtain ⟨go, yl⟩ := wk1 i items[i] (List.getElem?_eq_getElem hlt)
          refine .inr ⟨go, fun H3 => ∃ s3 w3, lcL s1.length ck g mt el (wipeN e vs) (items.drop (i + 1)) s3 = some sF ∧ W.le ⟨w1.F, w1.ρ ++ [D]⟩ w3 ∧ Ok (ba X) w3 s3 H3, fun H3 h3 => ⟨items.length - (i + 1), by omega, rfl, hlt, h3⟩, fun v H4 y => ?_⟩
          obtain ⟨w4, l4, g4, v4⟩ := yl v H4 y
          cases hgx : g items[i] (wipeN e vs) with
          | none => rw [hgx] at hf; cases hf
          | some e3 =>
            rw [hgx] at hf
            refine hG _ _ _ _ _ _ _ _ hgx ⟨w4, g4, slw (l2.trans l4), v4, fun σ5 o l5 => ⟨Z.wipe_off o, ?_⟩⟩
            cases hM : mt e3 s2 with
            | none => simp only [hM] at hf; cases hf
            | some z =>
              obtain ⟨bb, s5⟩ := z
              simp only [hM] at hf
              refine hT _ _ _ _ _ _ _ hM ⟨w4, g4, l5, fun w6 H6 l6 g6 => ?_⟩
              cases bb with
              | false =>
                dsimp only
                rw [if_neg Bool.false_ne_true]
                exact ⟨s5, w6, hf, (l2.trans l4).trans l6, g6⟩
              | true =>
                dsimp only
                rw [if_pos rfl]
                cases hE2 : el e3 s5 with
                | none => simp only [hE2] at hf; cases hf
                | some z =>
                  obtain ⟨yd, s7⟩ := z
                  simp only [hE2] at hf
                  refine hE _ _ _ _ _ _ _ hE2 ⟨w6, g6, l5.up l6, fun u w8 H8 l8 g8 v8 => ?_⟩
                  have l18 := ((l2.trans l4).trans l6).trans l8
                  have at8 : w8.ρ[s1.length]? = some D := pre_get l18.ρ atD
                  split at hf
                  · rename_i acc e8
                    split at hf
                    · rename_i hl
                      obtain ⟨a9, vs9, q1, q2, q3, q4⟩ := chg_lst (v := .ref D) g8 ⟨D, at8, rfl⟩ e8
                      cases q1
                      exact ⟨vs9, q2, by rw [q3.len]; exact Nat.lt_trans hl lim_lt, _, w8, hf, l18, q4 _ _ (q3.app ⟨v8, trivial⟩)⟩
                    · cases hf
                  · cases hf
        · cases hf
      · have e' : i = items.length := by omega
        subst e'
        rw [List.drop_length] at hf
        unfold lcL at hf
        split at hf
        · rename_i hck
          cases hf
          obtain ⟨_, st⟩ := wk w2 _ H' (lD.trans l2) g2 hck
          obtain ⟨w3, a1, a2, a3⟩ := mkFin_ok h g1 (lD.trans l2) (pre_get l2.ρ atD) g2
          exact .inl ⟨st, k _ w3 H' (l1.trans a1) a2 a3⟩
        · cases hf
    · cases h
  · cases h
section
variable {scope : Scope} {own : List (Str × Nat)} {ow : Bool} {vs : List Nat} {mi : MI} {g : MG} {el : ME}
theorem n_lc (hi : NI X tg iter mi) (hg : ∀ z, NG (bl X scope z) tg vs g) (ht : ∀ z, NTs (bl X scope z) ifs mt) (he : ∀ z, NE (bl X scope z) elt el) (hN : X.N.Nodup) (ok : BlkOk X.N X.env.scope scope own) (hvs : own.map (·.2) = vs := by rfl) (hc : X.calm = true := by rfl) (hs : ∀ x, foldedSetIterable iter X.env x = pure x := by intro _; rfl) :
    NE X (.ListComp elt [⟨tg, iter, ifs, 0⟩] scope pos) (eLc ow vs mi g mt el) := fun e s d s' h => by
  subst hvs
  refine PE.imp (pe_lc hc hN hi.fam ok (fun sh H C cl fp => (show PG (X.blk sh H scope (compEnvC scope cl C X.env) fp) tg (fun v σ H Q => ∃ s d e e', g d e = some e' ∧ tG (ba X) (own.map (·.2)) s d e e' v σ H Q) from (hg (sh, H, C, cl, fp)).fam)) (fun sh H C cl fp => (⟨fun pins sh' σ H' Q I ⟨e, s, b, s', hm, q⟩ => (ht (sh, H, C, cl, fp) e s b s' hm).run pins sh' σ H' Q I q⟩ : PTs _ ifs (fun σ H Q => ∃ e s b s', mt e s = some (b, s') ∧ tT (ba X) e s b s' σ H Q))) (fun sh H C cl fp => (show PE (X.blk sh H scope (compEnvC scope cl C X.env) fp) elt (fun σ H Q => ∃ e s d s', el e s = some (d, s') ∧ tE (ba X) e s d s' σ H Q) from (he (sh, H, C, cl, fp)).fam)) hs) ?_
  exact lc_run h (fun items ck s1 σ H R h1 h2 => ⟨e, s, items, ck, s1, h1, h2⟩) (fun s d e e' v σ H Q h1 h2 => ⟨s, d, e, e', h1, h2⟩) (fun e s b s' σ H Q h1 h2 => ⟨e, s, b, s', h1, h2⟩) (fun e s d s' σ H Q h1 h2 => ⟨e, s, d, s', h1, h2⟩)
/-- name = [..] -/
theorem ns_setLc {y : Str} {py spos : Pos} (i : Nat) (hi : NI X tg iter mi) (hg : ∀ z, NG (bl X scope z) tg vs g) (ht : ∀ z, NTs (bl X scope z) ifs mt) (he : ∀ z, NE (bl X scope z) elt el) (hN : X.N.Nodup) (ok : BlkOk X.N X.env.scope scope own) (hvs : own.map (·.2) = vs := by rfl) (hc : X.calm = true := by rfl) (hs : ∀ x, foldedSetIterable iter X.env x = pure x := by intro _; rfl)
    (hy : X.N[i]? = some y := by rfl) (hyl : X.env.scope.names.lookup y = some .local := by rfl) (hsw : swapsWith (.ListComp elt [⟨tg, iter, ifs, 0⟩] scope pos) (some (.Name y py)) spos.line X.env = pure true := by rfl) :
    NS X (.Assign [.Name y py] (.ListComp elt [⟨tg, iter, ifs, 0⟩] scope pos) spos) (sSet i (eLc ow vs mi g mt el)) := fun e s fl e' s' b hm hb => by
  subst hvs
  unfold sSet at hm
  split at hm
  · rename_i d s1 h
    cases hm
    refine Z.PS.imp (ps_setLc hc hN hy hyl hsw hi.fam ok (fun sh H C cl fp => (show PG (X.blk sh H scope (compEnvC scope cl C X.env) fp) tg (fun v σ H Q => ∃ s d e e', g d e = some e' ∧ tG (ba X) (own.map (·.2)) s d e e' v σ H Q) from (hg (sh, H, C, cl, fp)).fam)) (fun sh H C cl fp => (⟨fun pins sh' σ H' Q I ⟨e, s, b, s', hm, q⟩ => (ht (sh, H, C, cl, fp) e s b s' hm).run pins sh' σ H' Q I q⟩ : PTs _ ifs (fun σ H Q => ∃ e s b s', mt e s = some (b, s') ∧ tT (ba X) e s b s' σ H Q))) (fun sh H C cl fp => (show PE (X.blk sh H scope (compEnvC scope cl C X.env) fp) elt (fun σ H Q => ∃ e s d s', el e s = some (d, s') ∧ tE (ba X) e s d s' σ H Q) from (he (sh, H, C, cl, fp)).fam)) hs) fun Dn σ H ⟨w, G, l, k⟩ => ?_
    refine lc_run h (fun items ck s1 σ H R h1 h2 => ⟨e, s, items, ck, s1, h1, h2⟩) (fun s d e e' v σ H Q h1 h2 => ⟨s, d, e, e', h1, h2⟩) (fun e s b s' σ H Q h1 h2 => ⟨e, s, b, s', h1, h2⟩) (fun e s d s' σ H Q h1 h2 => ⟨e, s, d, s', h1, h2⟩) σ H _ ⟨w, G, l, fun v w1 H1 l1 g1 v1 => ?_⟩
    exact k w1 _ H1 (l1.cut b) g1 ((l.up l1).put i v1)
  · cases hm
end

/-- what a call leaves: the store cut back; a list of one's own becomes a datum -/
noncomputable def ret (own : Bool) (s : Sto) (d : D) (s' : Sto) : Option (D × Sto) := match d with
  | .d x => some (.d x, trim s s')
  | .r j => if j < s.length then some (.r j, trim s s') else if own then some (.r j, s') else match s'[j]? with
    | some (.lst ds) => match data ds with
      | some xs => some (.d (.list xs), trim s (s'.set j .gone))
      | none => some (.r j, s')
    | _ => some (.r j, s')
noncomputable def fnR (np n : Nat) (own : Bool) (M : MS) : FA := fun s ds => if ds.length = np then match M (ds.map some ++ List.replicate (n - np) none) s with
  | some (.rt d, _, s') => ret own s d s'
  | some (.nx, _, s') => ret own s (.d .none) s'
  | _ => none
  else none
def spN (B : Ba) (F : FA) : Sp := fun vs H Q _ => ∃ w ds s d s', Ok B w s H ∧ VRs B w vs ds ∧ F s ds = some (d, s') ∧ ∀ v w' H', w.le w' → Ok B w' s' H' → VR B w' v d → Q v H'
theorem ret_ok {B : Ba} {own : Bool} {w w' : W} {s s1 s' : Sto} {H H' : Hp} {d0 d : D} {v : V} (h : ret own s d0 s1 = some (d, s')) (g : Ok B w s H) (l : w.le w') (g' : Ok B w' s1 H') (hv : VR B w' v d0) : ∃ w2, w.le w2 ∧ Ok B w2 s' H' ∧ VR B w2 v d := by
  have cutw : ∀ {w3 : W}, w.le w3 → w.le (w3.take s.length) := fun {w3} l3 => ⟨l3.F, by
    obtain ⟨m, hm⟩ := l3.ρ
    show w.ρ <+: w3.ρ.take s.length
    rw [← hm, ← g.lr, List.take_append_of_le_length (Nat.le_refl _), List.take_length]
    exact List.prefix_rfl⟩
  unfold ret at h
  split at h
  · rename_i x
    cases h
    rcases trim_cases g g' with ⟨h, _⟩ | ⟨h, h1, h2⟩
    · rw [h]; exact ⟨w', l, g', hv⟩
    · rw [h]; exact ⟨_, cutw l, h2, hv⟩
  · rename_i j
    split at h
    · rename_i hj
      cases h
      rcases trim_cases g g' with ⟨h, _⟩ | ⟨h, h1, h2⟩
      · rw [h]; exact ⟨w', l, g', hv⟩
      · rw [h]; exact ⟨_, cutw l, h2, hv.cut fun k e => by cases e; exact hj⟩
    · split at h
      · cases h
        exact ⟨w', l, g', hv⟩
      · split at h
        · rename_i ds e1
          split at h
          · rename_i xs e2
            cases h
            rw [data_eq e2] at e1
            obtain ⟨a, h1, rfl⟩ := hv
            obtain ⟨w3, l3, g3, d3⟩ := g'.freeze e1 h1
            rcases trim_cases g g3 with ⟨h, _⟩ | ⟨h, h1, h2⟩
            · rw [h]; exact ⟨w3, l.trans l3, g3, d3⟩
            · rw [h]; exact ⟨_, cutw (l.trans l3), h2, d3⟩
          · cases h
            exact ⟨w', l, g', hv⟩
        · cases h
          exact ⟨w', l, g', hv⟩
/-- a def that may be called by its name -/
structure Fn (P : Program) (w : World) (K : PySem.W.Frag) (mg : Str → Option Value) (base : Heap) (k : Nat) (x : Str) (F : FA) : Prop where
  ex : ∃ (f : Addr) (fd : FuncData) (ps : List Str), FnOk P w K mg base CX0 k f fd ps (spN ⟨P, w, K⟩ F) ∧ mg x = some (.ref f) ∧ PySem.W.keepIn K (.ref f) = true ∧ Binds K fd ps []
theorem VRs.start {B : Ba} {w : W} : ∀ {vs : List V} {ds : List D} (n : Nat), VRs B w vs ds → Sl B w (ds.map some ++ List.replicate n none) (vs.map some ++ List.replicate n none) := fun {vs ds} n h => ⟨by simp [h.len], fun i d q => by
  by_cases hi : i < (ds.map some).length
  · rw [List.getElem?_append_left hi, List.getElem?_map] at q
    obtain ⟨d', h1, h2⟩ := Option.map_eq_some_iff.mp q
    cases h2
    obtain ⟨v, h3, h4⟩ := h.get h1
    exact ⟨v, by rw [List.getElem?_append_left (by rw [List.length_map, h.len]; simpa using hi), List.getElem?_map, h3]; rfl, h4⟩
  · rw [List.getElem?_append_right (by omega), List.getElem?_replicate] at q
    split at q <;> cases q⟩
theorem nfun {P : Program} {w : World} {K : PySem.W.Frag} {mg : Str → Option Value} {base : Heap} {x : Str} {st : Stmt} {ps N : List Str} {k : Nat} {own : Bool} {M : MS} (DD : Dfn K mg x st ps) (S : FnScope N ps (defScope st))
    (body : ∀ (f : Addr) (cdv : Value) (A : Around) (outer : List Env) (s : Shared) (H : Hp) (E : XK), Room k (A.deeper (envOfC x (defScope st) s.heap.objs.size f cdv)) →
      NSs (cxOf CX0 P w K mg base N x (defScope st) f cdv A outer s H E).nox (defBody st) M) : Fn P w K mg base (k + 1) x (fnR ps.length N.length own M) := by
  obtain ⟨f, fd, F, hm, hb⟩ := DD.ex
  have len : ∀ {s : Sto} {ds : List D} {d : D} {s' : Sto}, fnR ps.length N.length own M s ds = some (d, s') → ds.length = ps.length := fun {s ds d s'} h => by
    unfold fnR at h
    split at h
    · assumption
    · cases h
  refine ⟨f, fd, ps, F.ok S (fun vs H Q E ⟨w, ds, s, d, s', g, hv, h, _⟩ => by rw [hv.len]; exact len h) (fun cdv A outer sh H vs Q E hr ⟨w, ds, s, d, s', g, hv, h, k⟩ => ?_), hm, F.kp, hb⟩
  have hl := len h
  have go : ∀ fl e1 s1 d0, M (ds.map some ++ List.replicate (N.length - ps.length) none) s = some (fl, e1, s1) → ret own s d0 s1 = some (d, s') → (fl = .rt d0 ∨ (fl = .nx ∧ d0 = .d .none)) → ∃ t, PSs (cxOf CX0 P _ K mg base N x (defScope st) f cdv A outer sh H E).nox (defBody st) t ∧ t { nx := fun _ H' => Q .non H', rt := Q } (start N vs) H := fun fl e1 s1 d0 h1 h2 h3 => by
    refine ⟨_, body f cdv A outer sh H E hr _ _ _ _ _ s.length h1 (Nat.le_refl _), w, g, ?_, ?_⟩
    · show Sl _ w _ (vs.map some ++ List.replicate (N.length - vs.length) none)
      rw [hv.len, hl]
      exact VRs.start _ hv
    · rcases h3 with rfl | ⟨rfl, rfl⟩
      · exact fun w' v H' l g' v' => by
          obtain ⟨w2, l2, g2, v2⟩ := ret_ok h2 g (W.le.of_take l g.lr) g' v'
          exact k v w2 H' l2 g2 v2
      · exact fun w' σ' H' l g' sl => by
          obtain ⟨w2, l2, g2, v2⟩ := ret_ok h2 g (W.le.of_take l g.lr) g' vn
          exact k .non w2 H' l2 g2 v2
  unfold fnR at h
  rw [if_pos hl] at h
  split at h
  · rename_i d0 e1 s1 e0
    exact go _ _ _ _ e0 h (.inl rfl)
  · rename_i e1 s1 e0
    exact go _ _ _ _ e0 h (.inr ⟨rfl, rfl⟩)
  · cases h
/-- nothing is promised -/
theorem nfun_none {P : Program} {w : World} {K : PySem.W.Frag} {mg : Str → Option Value} {base : Heap} {x : Str} {st : Stmt} {ps N : List Str} {k : Nat} (DD : Dfn K mg x st ps) (S : FnScope N ps (defScope st)) : Fn P w K mg base (k + 1) x (fun _ _ => none) := by
  obtain ⟨f, fd, F, hm, hb⟩ := DD.ex
  exact ⟨f, fd, ps, F.ok S (fun vs H Q E ⟨w, ds, s, d, s', g, hv, h, _⟩ => by cases h) (fun cdv A outer sh H vs Q E hr ⟨w, ds, s, d, s', g, hv, h, k⟩ => by cases h), hm, F.kp, hb⟩
theorem Fn.mono {P : Program} {w : World} {K : PySem.W.Frag} {mg : Str → Option Value} {base : Heap} {x : Str} {F : FA} {k j : Nat} (c : Fn P w K mg base k x F) (h : k ≤ j) : Fn P w K mg base j x F := let ⟨f, fd, ps, F, r⟩ := c.ex; ⟨f, fd, ps, F.mono h, r⟩
theorem n_call {F : FA} {x : Str} {k j : Nat} (c : Fn X.prog X.w X.K X.mg X.base k x F) (ha : NA X (ex :: es) ms) (hr : Room j X.A) (hk : k ≤ j := by omega) (cl : Cl X x ex es pos := by exact ⟨rfl, rfl, rfl⟩) (hdb : (x == ("__debug__" : Str)) = false := by decide) : NE X (.Call (.Name x p) (ex :: es) [] pos) (eCall F ms) := fun e s z s' h => by
  obtain ⟨ds, s1, e1, e2⟩ := call_cases h
  obtain ⟨f, fd, ps, FF, hm, kp, b⟩ := c.ex
  refine PE.imp (pe_call FF (hr.mono hk) cl.1 hm kp b .nil pass0 (ha _ _ _ _ e1) hdb cl.2.1 cl.2.2) fun σ H Q ⟨w, g, l, q⟩ => ⟨w, g, l, fun vs w1 H1 l1 g1 v1 => ?_⟩
  show spN _ F (vs ++ []) H1 Q E0
  rw [List.append_nil]
  exact ⟨w1, ds, s1, z, s', g1, v1, e2, fun v w2 H2 l2 g2 v2 => q v w2 H2 (l1.trans l2) g2 v2⟩
end
end N

namespace N
open PySem L2 PyProof.Rows
open Z (Ext dpUp dpsUp dpsLen dpsGet DxO KyD DEn Cl cut offv bl Dfn)
section
variable {X : Cx} {ex a b c tg iter elt : Expr} {es ifs : List Expr} {st : Stmt} {rest body orelse : List Stmt} {m ma mb mc : ME} {ms : MA} {mt mu : MT} {pos p : Pos} {M M1 M2 : MS}

/-- a method of a list of the store: what it does to the list, what it answers -/
abbrev FM := Sto → List D → List D → Option (List D × D)
def eMeth (f : FM) (ma : ME) (ms : MA) : ME := fun e s => match ma e s with
  | some (.r j, s1) => match s1[j]? with
    | some (.lst _) => match ms e s1 with
      | some (ds, s2) => match s2[j]? with
        | some (.lst xs) => match f s2 xs ds with
          | some (ys, z) => some (z, s2.set j (.lst ys))
          | none => none
        | _ => none
      | none => none
    | _ => none
  | _ => none
def MetS (X : Cx) (id : String) (f : FM) : Prop := ∀ s xs ds ys z, f s xs ds = some (ys, z) → ∃ q, MtR X id q ∧ ∀ p vs us w H (Q : VK), Ok (ba X) w s H → H p = some (.lst vs) → VRs (ba X) w vs xs → VRs (ba X) w us ds → (∀ vs' v, VRs (ba X) w vs' ys → VR (ba X) w v z → Q v (upd H p (.lst vs'))) → q (.ref p) us H Q
theorem meth_cases {f : FM} {e : Lo} {s s' : Sto} {z : D} (h : eMeth f ma ms e s = some (z, s')) : ∃ j s1 x1 ds s2 xs ys, ma e s = some (.r j, s1) ∧ s1[j]? = some (.lst x1) ∧ ms e s1 = some (ds, s2) ∧ s2[j]? = some (.lst xs) ∧ f s2 xs ds = some (ys, z) ∧ s' = s2.set j (.lst ys) := by
  unfold eMeth at h
  split at h
  · rename_i j s1 e1
    split at h
    · rename_i x1 e2
      split at h
      · rename_i ds s2 e3
        split at h
        · rename_i xs e4
          split at h
          · rename_i ys zz e5
            cases h
            exact ⟨j, s1, x1, ds, s2, xs, ys, e1, e2, e3, e4, e5, rfl⟩
          · cases h
        · cases h
      · cases h
    · cases h
  · cases h
theorem n_meth {f : FM} {id : String} {name : Str} {apos : Pos} (hf : MetS X id f) (ha : NE X a ma) (hs : NA X (ex :: es) ms) (slot : Slot "list" name id) (hty : typeOf (.builtin id) = pure (.type "method_descriptor"))
    (hbase : attributeBase a name X.env (eval a X.env) = eval a X.env := by rfl)
    (hfew : ((backTo pos (starEach (ex :: es) X.env)).all (fun x => !x.1) && (backToKw pos (keywordEach [] X.env)).all (fun x => x.1.isSome)
      && decide ((ex :: es).length + ([] : List Keyword).length + (if ([] : List Keyword).isEmpty then 0 else 1) < 30)) = true := by rfl)
    (hline : (apos.endLine == pos.line) = true := by rfl) (hst : starEach (ex :: es) X.env = (false, eval ex X.env) :: starEach es X.env := by rfl) (hplain : (backTo pos (starEach es X.env)).any (·.1) = false := by rfl) :
    NE X (.Call (.Attribute a name apos) (ex :: es) [] pos) (eMeth f ma ms) := fun e s z s' h => by
  obtain ⟨j, s1, x1, ds, s2, xs, ys, e1, e2, e3, e4, e5, rfl⟩ := meth_cases h
  obtain ⟨q, hq, run⟩ := hf _ _ _ _ _ e5
  refine PE.imp (pe_bm PySem.F.plainAttrs_list slot hty hq (ha _ _ _ _ e1) (hs _ _ _ _ e3) hbase hfew hline hst hplain) fun σ H Q ⟨w, g, l, k⟩ => ⟨w, g, l, fun v w1 H1 l1 g1 v1 => ?_⟩
  obtain ⟨p1, vs1, rfl, h1, _, _⟩ := chg_lst g1 v1 e2
  refine ⟨.inl ⟨rfl, vs1, .of h1⟩, w1, g1, l.up l1, fun us w2 H2 l2 g2 v2 => ?_⟩
  obtain ⟨p2, vs2, ep, h2, h3, h4⟩ := chg_lst g2 (v1.up l2) e4
  cases ep
  exact run _ vs2 us w2 H2 Q g2 h2 h3 v2 fun vs' v hv' hv => k v w2 _ (l1.trans l2) (h4 _ _ hv') hv
def fApp : FM := fun _ xs ds => match ds with
  | [d] => if xs.length < lim then some (xs ++ [d], .d .none) else none
  | _ => none
theorem f_app : MetS X "list.append" fApp := fun s xs ds ys z h => by
  unfold fApp at h
  split at h
  · rename_i d
    split at h
    · rename_i hl
      cases h
      refine ⟨_, mt_append, fun p vs us w H Q g hp hv hu k => ?_⟩
      obtain ⟨u, rfl, hu1⟩ := vrs1 hu
      exact ⟨p, vs, u, rfl, rfl, hp, by rw [hv.len]; exact Nat.lt_trans hl lim_lt, k _ _ (hv.app ⟨hu1, trivial⟩) vn⟩
    · cases h
  · cases h
def fExt : FM := fun s xs ds => match ds with
  | [d] => match asL s d with
    | some es => if xs.length + es.length ≤ lim then some (xs ++ es, .d .none) else none
    | none => none
  | _ => none
def fPopAt : FM := fun _ xs ds => match ds with
  | [.d (.int i)] => if -(2 ^ 63) ≤ i ∧ i < 2 ^ 63 then match seqIndex? i xs.length with
    | some k => match xs[k]? with
      | some y => some (xs.eraseIdx k, y)
      | none => none
    | none => none
    else none
  | _ => none
theorem f_popAt : MetS X "list.pop" fPopAt := fun s xs ds ys z h => by
  unfold fPopAt at h
  split at h
  · rename_i i
    split at h
    · rename_i hi
      split at h
      · rename_i kk e0
        split at h
        · rename_i y e1
          cases h
          refine ⟨_, mt_popAt, fun p vs us w H Q g hp hv hu k => ?_⟩
          obtain ⟨u, rfl, hu1⟩ := vrs1 hu
          cases vr_int hu1
          obtain ⟨v, h1, h2⟩ := hv.get e1
          exact ⟨p, vs, i, kk, v, rfl, rfl, hp, hi.1, hi.2, by rw [hv.len]; exact e0, h1, k _ _ (hv.eraseIdx kk) h2⟩
        · cases h
      · cases h
    · cases h
  · cases h

def eDic : ME := fun _ s => some (.r s.length, s ++ [.dic []])
theorem n_dic : NE X (.Dict [] [] pos) eDic := fun e s d s' h => by
  cases h
  refine PE.imp Z.pe_newX fun σ H Q ⟨w, g, l, k⟩ => fun p hp => ?_
  exact k _ _ _ Ok.new_le (g.new hp ⟨ext_none g.ext hp, [], upd_same, trivial⟩) g.new_at
theorem inq_cases {neg : Bool} {x : PyData} {ds : List PyData} {k : Bool} (h : cInQ neg x ds = some k) : PyData.plainAll ds = true ∧ x.plain = true ∧ min (PyData.depthAll ds) x.depth ≤ 60 ∧ k = (if neg then !(ds.any fun z => PyData.eqv z x) else ds.any fun z => PyData.eqv z x) := by
  unfold cInQ at h
  split at h
  · rename_i hc
    cases h
    exact ⟨hc.1, hc.2.1, hc.2.2, rfl⟩
  · cases h
theorem cIn_ok {op : CmpOp} {neg : Bool} (h1 : OpR X (compareOp op) (Z.rInZ X.K X.A.units neg)) (h2 : OpR X (compareOp op) (Z.rInX X neg)) (hu : X.A.units + 64 < cLine) {s : Sto} {a b : D} {k : Bool} (e : cIn neg s a b = some k) (ndk : ∀ j kvs, b = .r j → s[j]? ≠ some (.dk kvs)) :
    ∃ q, OpR X (compareOp op) q ∧ BiN (ba X) q s a b (.d (.bool k)) s := by
  have seq : ∀ {c : PyData} {ds : List PyData} {x : PyData}, pd s b = some c → (c = .list ds ∨ c = .tuple ds) → pd s a = some x → cInQ neg x ds = some k → ∃ q, OpR X (compareOp op) q ∧ BiN (ba X) q s a b (.d (.bool k)) s := fun {c ds x} hb hc ha hq => by
    obtain ⟨p1, p2, p3, rfl⟩ := inq_cases hq
    refine ⟨_, h1, fun u v w H Q g v1 v2 q => ⟨x, c, ds, pd_ok ha g v1, pd_ok hb g v2, hc, p1, p2, by show X.A.units + 1 + _ < _; omega, q _ w H (W.le.refl w) g vb⟩⟩
  unfold cIn at e
  split at e
  · split at e
    · rename_i x e1
      exact seq rfl (.inr rfl) e1 e
    · cases e
  · split at e
    · rename_i x e1
      exact seq rfl (.inl rfl) e1 e
    · cases e
  · rename_i j
    split at e
    · rename_i ds e1
      split at e
      · rename_i xs e2
        split at e
        · rename_i x e3
          refine seq (c := .list xs) ?_ (.inl rfl) e3 e
          show (match s[j]? with
            | some (.lst ds) => match data ds with
              | some xs => some (PyData.list xs)
              | none => none
            | _ => none) = _
          rw [e1]
          simp only [e2]
        · cases e
      · cases e
    · rename_i kvs e1
      split at e
      · rename_i x
        split at e
        · rename_i hk
          cases e
          refine ⟨_, h2, fun u v w H Q g v1 v2 q => ?_⟩
          obtain ⟨b1, rfl, kb⟩ := key_ok hk v1
          obtain ⟨p1, hp1, rfl⟩ := v2
          obtain ⟨_, xs, q1, q2⟩ := g.ce _ _ p1 e1 hp1
          refine ⟨p1, b1, xs, x, rfl, rfl, q1, q2.ky g.ext, ⟨dpUp g.ext _ _ kb.1, kb.2⟩, ?_⟩
          rw [q2.has]
          exact q _ w H (W.le.refl w) g vb
        · cases e
      · cases e
    · rename_i kvs e1
      exact absurd e1 (ndk j kvs rfl)
    · cases e
  · cases e
noncomputable def dGet (kvs : List (PyData × D)) (x : PyData) : Option D := (kvs.find? fun kv => decide (kv.1 = x)).map (·.2)
theorem DR.get {B : Ba} {w : W} {x : PyData} {d : D} : ∀ {xs : List DEn} {kvs : List (PyData × D)}, DR B w xs kvs → dGet kvs x = some d → ∃ c u v, atKey xs x = some (c, u) ∧ RelV v u ∧ VR B w v d
  | [], [], _, h => by cases h
  | e :: xs, kv :: kvs, ⟨⟨h1, h2, vv, h4, h5⟩, h6⟩, h => by
    unfold dGet at h
    unfold atKey
    rw [List.find?_cons] at h ⊢
    by_cases hk : kv.1 = x
    · rw [h1]
      simp only [hk, decide_true] at h ⊢
      cases h
      exact ⟨_, _, vv, rfl, h4, h5⟩
    · rw [h1]
      simp only [hk, decide_false] at h ⊢
      exact DR.get h6 h
  | [], _ :: _, h, _ => h.elim
  | _ :: _, [], h, _ => h.elim
/-- d[k] for dicts with tuples as keys; else an item -/
noncomputable def eIxD (ma mb : ME) : ME := eBin (fun s a b => match a, b with
  | .r j, .d x => match s[j]? with
    | some (.dic kvs) => if isKey x then match dGet kvs x with
        | some d => some (d, s)
        | none => none
      else none
    | _ => none
  | _, _ => none) ma mb
theorem n_ixD (hu : X.A.units + 64 < cLine) (ha : NE X a ma) (hb : NE X b mb) (hs : PlainIx b := by intro _ _; rfl) : NE X (.Subscript a b pos) (eIxD ma mb) := fun e s z s' h => by
  obtain ⟨x, s1, y, s2, e1, e2, e3⟩ := bin_cases h
  split at e3
  · rename_i j x
    split at e3
    · rename_i kvs e4
      split at e3
      · rename_i hk
        split at e3
        · rename_i d e5
          cases e3
          refine PE.imp (pe_ix (Z.ix_X (by omega)) (ha _ _ _ _ e1) (hb _ _ _ _ e2) hs) (bi_run fun u v w H Q g v1 v2 q => ?_)
          obtain ⟨b1, rfl, kb⟩ := key_ok hk v2
          obtain ⟨p1, hp1, rfl⟩ := v1
          obtain ⟨_, xs, q1, q2⟩ := g.ce _ _ p1 e4 hp1
          obtain ⟨c, uu, vv, h5, h6, h7⟩ := q2.get e5
          exact ⟨p1, b1, xs, x, c, uu, vv, rfl, rfl, q1, q2.ky g.ext, ⟨dpUp g.ext _ _ kb.1, kb.2⟩, h5, h6, q vv w H (W.le.refl w) g h7⟩
        · cases e3
      · cases e3
    · cases e3
  · cases e3
/-- d[k] = v -/
noncomputable def dPut (kvs : List (PyData × D)) (x : PyData) (d : D) : List (PyData × D) := if dHas kvs x then kvs.map fun kv => if kv.1 = x then (kv.1, d) else kv else kvs ++ [(x, d)]
theorem DR.len {B : Ba} {w : W} : ∀ {xs : List DEn} {kvs : List (PyData × D)}, DR B w xs kvs → xs.length = kvs.length
  | [], [], _ => rfl
  | v :: vs, d :: ds, ⟨h1, h2⟩ => by simp [DR.len h2]
  | [], _ :: _, h => h.elim
  | _ :: _, [], h => h.elim
theorem DR.map {B : Ba} {w : W} {x : PyData} {d : D} {u : Value} {v : V} (hu : RelV v u) (hv : VR B w v d) : ∀ {xs : List DEn} {kvs : List (PyData × D)}, DR B w xs kvs → DR B w (xs.map (putAt x u)) (kvs.map fun kv => if kv.1 = x then (kv.1, d) else kv)
  | [], [], _ => trivial
  | e :: xs, kv :: kvs, ⟨⟨h1, h2, h3⟩, h⟩ => by
    refine ⟨?_, DR.map hu hv h⟩
    unfold putAt
    by_cases hk : kv.1 = x
    · rw [if_pos (by rw [h1]; simpa using hk)]
      dsimp only
      rw [if_pos hk]
      exact ⟨h1, h2, v, hu, hv⟩
    · rw [if_neg (by rw [h1]; simpa using hk)]
      dsimp only
      rw [if_neg hk]
      exact ⟨h1, h2, h3⟩
  | [], _ :: _, h => h.elim
  | _ :: _, [], h => h.elim
theorem DR.app {B : Ba} {w : W} {e : DEn} {kv : PyData × D} (he : e.1 = kv.1 ∧ KyD B.K w.F e.2.1 e.1 ∧ ∃ vv, RelV vv e.2.2 ∧ VR B w vv kv.2) : ∀ {xs : List DEn} {kvs : List (PyData × D)}, DR B w xs kvs → DR B w (xs ++ [e]) (kvs ++ [kv])
  | [], [], _ => ⟨he, trivial⟩
  | _ :: _, _ :: _, ⟨h1, h⟩ => ⟨h1, DR.app he h⟩
  | [], _ :: _, h => h.elim
  | _ :: _, [], h => h.elim
theorem DR.put {B : Ba} {w : W} {x : PyData} {d : D} {b : Addr} {u : Value} {v : V} {xs : List DEn} {kvs : List (PyData × D)} (h : DR B w xs kvs) (kb : KyD B.K w.F b x) (hu : RelV v u) (hv : VR B w v d) : DR B w (storedH xs x b u) (dPut kvs x d) := by
  unfold storedH dPut
  rw [h.has]
  split
  · exact h.map hu hv
  · exact h.app ⟨rfl, kb, v, hu, hv⟩
noncomputable def sPutD (ma mi mv : ME) : MS := fun e s => match mv e s with
  | some (d, s1) => match ma e s1 with
    | some (.r j, s2) => match mi e s2 with
      | some (.d x, s3) => match s3[j]? with
        | some (.dic kvs) => if isKey x ∧ kvs.length < lim then some (.nx, e, s3.set j (.dic (dPut kvs x d))) else none
        | _ => none
      | _ => none
    | _ => none
  | none => none
theorem ns_putD {tpos : Pos} {mi mv : ME} (hu : X.A.units + 64 < cLine) (hv : NE X ex mv) (ha : NE X a ma) (hi : NE X b mi)
    (hsub : ∀ v, assign (.Subscript a b tpos) X.env v = (do
      let ov ← holding [v] (eval a X.env)
      let iv ← holding [v, ov] (eval b X.env)
      standAt tpos
      holding [v, ov, iv] (setItem ov iv v)
      release [v, ov, iv] []) := by intro _; rfl)
    (hs : swapsWithSole [.Subscript a b tpos] ex pos.line X.env = pure false := by rfl) (hw : swappedStores [.Subscript a b tpos] ex X.env = pure none := by rfl) (h1 : (assignEach [.Subscript a b tpos] X.env).map (·.2) = [assign (.Subscript a b tpos) X.env] := by rfl) :
    NS X (.Assign [.Subscript a b tpos] ex pos) (sPutD ma mi mv) := fun e s fl e' s' bb hm hb => by
  unfold sPutD at hm
  split at hm
  · rename_i d s1 e1
    split at hm
    · rename_i j s2 e2
      split at hm
      · rename_i x s3 e3
        split at hm
        · rename_i kvs e4
          split at hm
          · rename_i hk
            cases hm
            refine Z.PS.imp (ps_asg (hv _ _ _ _ e1) (pg_sub (ha _ _ _ _ e2) (hi _ _ _ _ e3) (Z.put_X (by omega)) hsub) hs hw h1) fun Dn σ H ⟨w, g, l, k⟩ => ⟨w, g, l, fun v w1 H1 l1 g1 v1 => ⟨w1, g1, l.up l1, fun u w2 H2 l2 g2 v2 => ⟨w2, g2, (l.up l1).up l2, fun z w3 H3 l3 g3 v3 => ?_⟩⟩⟩
            obtain ⟨b1, rfl, kb⟩ := key_ok hk.1 v3
            obtain ⟨p1, hp1, rfl⟩ := v2.up l3
            obtain ⟨hF, xs, q1, q2⟩ := g3.ce _ _ p1 e4 hp1
            refine ⟨p1, b1, xs, x, rfl, rfl, q1, q2.ky g3.ext, ⟨dpUp g3.ext _ _ kb.1, kb.2⟩, ⟨xs.map (·.1), by rw [List.length_map, q2.len]; exact Nat.lt_trans hk.2 lim_lt, fun e he => List.mem_map.mpr ⟨e, he, rfl⟩⟩, fun uu hu => ?_⟩
            exact k w3 σ _ (((l1.trans l2).trans l3).cut bb) (g3.chg hp1 hF ⟨hF, _, upd_same, q2.put kb hu ((v1.up l2).up l3)⟩) (((l.up l1).up l2).up l3)
          · cases hm
        · cases hm
      · cases hm
    · cases hm
  · cases hm
end
end N

namespace N
open PySem L2 PyProof.Rows
open Z (Ext dpUp dpsUp dpsLen dpsGet DxO KyD DEn Cl cut offv bl Dfn)
section
variable {X : Cx} {ex a b c tg iter elt : Expr} {es ifs : List Expr} {st : Stmt} {rest body orelse : List Stmt} {m ma mb mc : ME} {ms : MA} {mt mu : MT} {pos p : Pos} {M M1 M2 : MS}
/-- an item of whatever it is -/
noncomputable def gIxU (s : Sto) (a b : D) : Option D := match b with
  | .d (.int i) => gIx s a i
  | .d x => match a with
    | .r j => match s[j]? with
      | some (.dic kvs) => if isKey x then dGet kvs x else none
      | _ => none
    | _ => none
  | _ => none
noncomputable def eItem (ma mb : ME) : ME := eBin (fun s a b => match gIxU s a b with
  | some d => some (d, s)
  | none => none) ma mb
theorem n_item (hu : X.A.units + 64 < cLine) (ha : NE X a ma) (hb : NE X b mb) (hs : PlainIx b := by intro _ _; rfl) : NE X (.Subscript a b pos) (eItem ma mb) := fun e s z s' h => by
  obtain ⟨x, s1, y, s2, e1, e2, e3⟩ := bin_cases h
  split at e3
  · rename_i d e4
    cases e3
    unfold gIxU at e4
    split at e4
    · rename_i i
      refine n_ix ha hb hs e s z s' ?_
      unfold eIx eBin
      simp only [e1, e2, e4]
    · rename_i y' _
      split at e4
      · rename_i j
        split at e4
        · rename_i kvs e5
          split at e4
          · rename_i hk
            refine n_ixD hu ha hb hs e s z s' ?_
            unfold eIxD eBin
            simp only [e1, e2, e5, hk, e4, if_true]
          · cases e4
        · cases e4
      · cases e4
    · cases e4
  · cases e3
/-- a store to an item of whatever it is -/
noncomputable def sPutU (ma mi mv : ME) : MS := fun e s => match sPut ma mi mv e s with
  | some r => some r
  | none => sPutD ma mi mv e s
theorem ns_putU {tpos : Pos} {mi mv : ME} (hu : X.A.units + 64 < cLine) (hv : NE X ex mv) (ha : NE X a ma) (hi : NE X b mi)
    (hsub : ∀ v, assign (.Subscript a b tpos) X.env v = (do
      let ov ← holding [v] (eval a X.env)
      let iv ← holding [v, ov] (eval b X.env)
      standAt tpos
      holding [v, ov, iv] (setItem ov iv v)
      release [v, ov, iv] []) := by intro _; rfl)
    (hs : swapsWithSole [.Subscript a b tpos] ex pos.line X.env = pure false := by rfl) (hw : swappedStores [.Subscript a b tpos] ex X.env = pure none := by rfl) (h1 : (assignEach [.Subscript a b tpos] X.env).map (·.2) = [assign (.Subscript a b tpos) X.env] := by rfl) :
    NS X (.Assign [.Subscript a b tpos] ex pos) (sPutU ma mi mv) := fun e s fl e' s' bb hm hb => by
  unfold sPutU at hm
  split at hm
  · rename_i r e1
    cases hm
    exact ns_put hv ha hi hsub hs hw h1 _ _ _ _ _ _ e1 hb
  · exact ns_putD hu hv ha hi hsub hs hw h1 _ _ _ _ _ _ hm hb

def spE (K : PySem.W.Frag) : Sp := fun vs H Q _ => ∃ a ns, List.length ns ≤ 63 ∧ vs = [.ref a] ∧ SqL K H a (ns.map V.int) ∧ ∀ H', Q (.bl true) H'
theorem head_ok {K : PySem.W.Frag} {H : Hp} {a : Addr} {ns : List Int} (hl : ns.length ≤ 63) (hS : SqL K H a (ns.map V.int)) : spE K [.ref a] H (fun v _ => v = .bl true) fun _ _ _ => False := ⟨a, ns, hl, rfl, hS, fun _ => rfl⟩
theorem law_fn {P : Program} {w : World} {K : PySem.W.Frag} {mg : Str → Option Value} {base : Heap} {x : Str} {st : Stmt} {N : List Str} {k : Nat} {M : MS} {f : Addr} {fd : FuncData} (F : Fun K x x st f fd) (S : FnScope N ["script"] (defScope st))
    (body : ∀ (f : Addr) (cdv : Value) (A : Around) (outer : List Env) (s : Shared) (H : Hp) (E : XK), Room k (A.deeper (envOfC x (defScope st) s.heap.objs.size f cdv)) →
      NSs (cxOf CX0 P w K mg base N x (defScope st) f cdv A outer s H E).nox (defBody st) M)
    (run : ∀ ns : List Int, ns.length ≤ 63 → ∃ s', fnR 1 N.length false M [] [.d (.list (ns.map .int))] = some (.d (.bool true), s')) : FnOk P w K mg base CX0 (k + 1) f fd ["script"] (spE K) := by
  refine F.ok S (fun vs H Q E ⟨a, ns, hl, e, _⟩ => by rw [e]; rfl) (fun cdv A outer sh H vs Q E hr ⟨a, ns, hl, e, hS, q⟩ => ?_)
  subst e
  obtain ⟨s', h⟩ := run ns hl
  have g : Ok ⟨P, w, K⟩ ⟨H, []⟩ [] H := ⟨Ext.refl _, rfl, List.nodup_nil, fun a h => by simp at h, fun j c a h => by simp at h⟩
  have hv : VRs ⟨P, w, K⟩ ⟨H, []⟩ [.ref a] [.d (.list (ns.map .int))] := ⟨.lst hS (Z.dps_of_ints K H ns), trivial⟩
  have go : ∀ fl e1 s1 d0, M ([D.d (.list (ns.map .int))].map some ++ List.replicate (N.length - 1) none) [] = some (fl, e1, s1) → ret false [] d0 s1 = some (.d (.bool true), s') → (fl = .rt d0 ∨ (fl = .nx ∧ d0 = .d .none)) → ∃ t, PSs (cxOf CX0 P _ K mg base N x (defScope st) f cdv A outer sh H E).nox (defBody st) t ∧ t { nx := fun _ H' => Q .non H', rt := Q } (start N [.ref a]) H := fun fl e1 s1 d0 h1 h2 h3 => by
    refine ⟨_, body f cdv A outer sh H E hr _ _ _ _ _ 0 h1 (Nat.zero_le _), ⟨H, []⟩, g, VRs.start _ hv, ?_⟩
    rcases h3 with rfl | ⟨rfl, rfl⟩
    · exact fun w' v H' l g' v' => by
        obtain ⟨w2, l2, g2, v2⟩ := ret_ok h2 g (W.le.of_take l g.lr) g' v'
        cases vr_bl v2
        exact q H'
    · exact fun w' σ' H' l g' sl => by
        obtain ⟨w2, l2, g2, v2⟩ := ret_ok h2 g (W.le.of_take l g.lr) g' vn
        cases v2
  unfold fnR at h
  rw [if_pos (show List.length [D.d (PyData.list (List.map PyData.int ns))] = 1 from rfl)] at h
  split at h
  · rename_i d0 e1 s1 e0
    exact go _ _ _ _ e0 h (.inl rfl)
  · rename_i e1 s1 e0
    exact go _ _ _ _ e0 h (.inr ⟨rfl, rfl⟩)
  · cases h
end
end N

namespace N
open PySem L2 PyProof.Rows
open Sem (wp)
open AutoSeq1 (wpAny_loadPart')
section
variable {prog : Program} {w : World} {A : Around} {E : Value → Shared → Prop} {s : Shared}
end
open Z (Ext dpUp dpsUp dpsLen dpsGet DxO KyD DEn Cl cut offv bl Dfn)
section
variable {X : Cx} {ex a b c tg iter elt : Expr} {es ifs elts : List Expr} {st : Stmt} {rest body orelse : List Stmt} {m ma mb mc : ME} {ms : MA} {mt mu : MT} {pos p tpos : Pos} {M M1 M2 : MS}
/-- pairs of places and data -/
def enumD (xs : List PyData) : List D := (List.range xs.length).zipWith (fun i x => .d (.tuple [.int (i : Nat), x])) xs
/-- over enumerate(x), x a tuple or a list, of data -/
def iEnum (ms : MA) : MI := fun e s => match ms e s with
  | some ([.d (.tuple xs)], s1) => some (enumD xs, none, s1)
  | some ([.d (.list xs)], s1) => some (enumD xs, none, s1)
  | some ([.r j], s1) => match s1[j]? with
    | some (.lst ds) => match data ds with
      | some xs => some (enumD xs, some (j, ds), s1)
      | none => none
    | _ => none
  | _ => none
end
end N

namespace N
open PySem L2 PyProof.Rows
open Z (Ext dpUp dpsUp dpsLen dpsGet DxO KyD DEn Cl cut offv bl Dfn)
def kGet (kvs : List (Key × D)) (k : Key) : Option D := (kvs.find? fun kv => decide (kv.1 = k)).map (·.2)
def kPut (kvs : List (Key × D)) (k : Key) (d : D) : List (Key × D) := if kHas kvs k then kvs.map fun kv => if kv.1 = k then (kv.1, d) else kv else kvs ++ [(k, d)]
section
variable {B : Ba} {w : W} {k : Key}
theorem KR.has : ∀ {xs : List (Key × V)} {kvs : List (Key × D)}, KR B w xs kvs → (xs.any fun kv => decide (kv.1 = k)) = kHas kvs k
  | [], [], _ => rfl
  | e :: xs, kv :: kvs, ⟨⟨h1, _⟩, h⟩ => by
    unfold kHas
    rw [List.any_cons, List.any_cons, h1, KR.has h]
    rfl
  | [], _ :: _, h => h.elim
  | _ :: _, [], h => h.elim
theorem KR.val : ∀ {xs : List (Key × V)} {kvs : List (Key × D)}, KR B w xs kvs → (valV xs k).isSome = kHas kvs k ∧ ∀ d, kGet kvs k = some d → ∃ v, valV xs k = some v ∧ VR B w v d
  | [], [], _ => ⟨rfl, fun d h => by cases h⟩
  | e :: xs, kv :: kvs, ⟨⟨h1, h2⟩, h⟩ => by
    obtain ⟨ih1, ih2⟩ := KR.val h
    unfold valV kGet at *
    unfold kHas at *
    rw [Option.isSome_map] at ih1
    rw [List.any_cons, List.find?_cons, List.find?_cons, h1]
    by_cases hk : kv.1 = k
    · simp only [hk, decide_true, Option.map_some, Option.isSome_some, Bool.true_or, true_and]
      intro d hd
      cases hd
      exact ⟨_, rfl, h2⟩
    · simp only [hk, decide_false, Bool.false_or]
      refine ⟨by rw [Option.isSome_map]; exact ih1, ih2⟩
  | [], _ :: _, h => h.elim
  | _ :: _, [], h => h.elim
theorem KR.put {v : V} {d : D} (hv : VR B w v d) {xs : List (Key × V)} {kvs : List (Key × D)} (h : KR B w xs kvs) : KR B w (putK xs k v) (kPut kvs k d) := by
  have mp : ∀ {xs : List (Key × V)} {kvs : List (Key × D)}, KR B w xs kvs → KR B w (xs.map fun kv => if kv.1 = k then (kv.1, v) else kv) (kvs.map fun kv => if kv.1 = k then (kv.1, d) else kv) := by
    intro xs
    induction xs with
    | nil => intro kvs h; cases kvs with
      | nil => trivial
      | cons => exact h.elim
    | cons e xs ih => intro kvs h; cases kvs with
      | nil => exact h.elim
      | cons kv kvs =>
        obtain ⟨⟨h1, h2⟩, h3⟩ := h
        refine ⟨?_, ih h3⟩
        dsimp only
        by_cases hk : kv.1 = k
        · rw [if_pos (h1.trans hk), if_pos hk]; exact ⟨h1, hv⟩
        · rw [if_neg (by rw [h1]; exact hk), if_neg hk]; exact ⟨h1, h2⟩
  have ap : ∀ {xs : List (Key × V)} {kvs : List (Key × D)}, KR B w xs kvs → KR B w (xs ++ [(k, v)]) (kvs ++ [(k, d)]) := by
    intro xs
    induction xs with
    | nil => intro kvs h; cases kvs with
      | nil => exact ⟨⟨rfl, hv⟩, trivial⟩
      | cons => exact h.elim
    | cons e xs ih => intro kvs h; cases kvs with
      | nil => exact h.elim
      | cons kv kvs => exact ⟨h.1, ih h.2⟩
  unfold putK kPut
  rw [h.has]
  split
  · exact mp h
  · exact ap h
end
theorem chg_dk {B : Ba} {w : W} {s : Sto} {H : Hp} {v : V} {j : Nat} {kvs : List (Key × D)} (g : Ok B w s H) (hv : VR B w v (.r j)) (hs : s[j]? = some (.dk kvs)) :
    ∃ a xs, v = .ref a ∧ H a = some (.dK xs) ∧ KR B w xs kvs ∧ ∀ kvs' xs', KR B w xs' kvs' → Ok B w (s.set j (.dk kvs')) (upd H a (.dK xs')) := by
  obtain ⟨a, h1, rfl⟩ := hv
  obtain ⟨hF, xs, h2, h3⟩ := g.ce _ _ a hs h1
  exact ⟨a, xs, rfl, h2, h3, fun kvs' xs' h => g.chg h1 hF ⟨hF, xs', upd_same, h⟩⟩
section
variable {X : Cx} {ex a b c tg iter elt kx vx : Expr} {es ifs elts : List Expr} {st : Stmt} {rest body orelse : List Stmt} {m ma mb mc : ME} {ms : MA} {mt mu : MT} {pos p tpos : Pos} {M M1 M2 : MS}
def eDicK : ME := fun _ s => some (.r s.length, s ++ [.dk []])
theorem in_dk {neg : Bool} {s : Sto} {a : D} {j : Nat} {kvs : List (Key × D)} {k : Bool} (h : cIn neg s a (.r j) = some k) (e : s[j]? = some (.dk kvs)) : ∃ x kk, a = .d x ∧ keyOf x = some kk ∧ k = (if neg then !kHas kvs kk else kHas kvs kk) := by
  unfold cIn at h
  simp only [e] at h
  split at h
  · rename_i x
    split at h
    · rename_i kk e2
      cases h
      exact ⟨x, kk, rfl, e2, rfl⟩
    · cases h
  · cases h
/-- x in ..: the full -/
theorem n_in {neg : Bool} {op : CmpOp} (hop : (op = .In ∧ neg = false) ∨ (op = .NotIn ∧ neg = true)) (hu : X.A.units + 64 < cLine) (ha : NE X a ma) (hb : NE X b mb) (hm : behindInMarks op b = false := by rfl) : NE X (.Compare a [op] [b] pos) (eCmp (cIn neg) ma mb) := fun e s z s' h => by
  obtain ⟨x, s1, y, s2, e1, e2, e3⟩ := bin_cases h
  split at e3
  · rename_i k ek
    cases e3
    by_cases hd : ∃ j kvs, y = .r j ∧ s'[j]? = some (.dk kvs)
    · obtain ⟨j, kvs, rfl, hj⟩ := hd
      obtain ⟨dx, kk, rfl, hk, rfl⟩ := in_dk ek hj
      rcases hop with ⟨rfl, rfl⟩ | ⟨rfl, rfl⟩
      · refine PE.imp (pe_cmp (pc_din (by omega) (ha _ _ _ _ e1) (hb _ _ _ _ e2)) hm) fun σ H Q ⟨w, g, l, q⟩ => ⟨w, g, l, fun v w1 H1 l1 g1 v1 => ⟨w1, g1, l.up l1, fun u w2 H2 l2 g2 v2 => ?_⟩⟩
        obtain ⟨p1, xs, rfl, h2, h3, _⟩ := chg_dk g2 v2 hj
        have hv := keyOf_ok hk (v1.up l2)
        refine ⟨p1, valV xs kk, rfl, .inl ⟨xs, kk, .inl h2, hv, rfl⟩, ?_⟩
        rw [(h3.val (k := kk)).1]
        exact q _ w2 H2 (l1.trans l2) g2 vb
      · refine PE.imp (pe_cmp (pc_dnotin (by omega) (ha _ _ _ _ e1) (hb _ _ _ _ e2)) hm) fun σ H Q ⟨w, g, l, q⟩ => ⟨w, g, l, fun v w1 H1 l1 g1 v1 => ⟨w1, g1, l.up l1, fun u w2 H2 l2 g2 v2 => ?_⟩⟩
        obtain ⟨p1, xs, rfl, h2, h3, _⟩ := chg_dk g2 v2 hj
        have hv := keyOf_ok hk (v1.up l2)
        refine ⟨p1, valV xs kk, rfl, .inl ⟨xs, kk, .inl h2, hv, rfl⟩, ?_⟩
        rw [(h3.val (k := kk)).1]
        exact q _ w2 H2 (l1.trans l2) g2 vb
    · have nd : ∀ j kvs, y = .r j → s'[j]? ≠ some (.dk kvs) := fun j kvs e1 e2 => hd ⟨j, kvs, e1, e2⟩
      rcases hop with ⟨rfl, rfl⟩ | ⟨rfl, rfl⟩
      · obtain ⟨q, hq, hB⟩ := cIn_ok Z.op_inZ (Z.op_inX (by omega)) hu ek nd
        exact PE.imp (pe_cmpR hq (ha _ _ _ _ e1) (hb _ _ _ _ e2) hm) (bi_run hB)
      · obtain ⟨q, hq, hB⟩ := cIn_ok Z.op_ninZ (Z.op_ninX (by omega)) hu ek nd
        exact PE.imp (pe_cmpR hq (ha _ _ _ _ e1) (hb _ _ _ _ e2) hm) (bi_run hB)
  · cases e3
theorem nt_in {neg : Bool} {op : CmpOp} (hop : (op = .In ∧ neg = false) ∨ (op = .NotIn ∧ neg = true)) (hu : X.A.units + 64 < cLine) (ha : NE X a ma) (hb : NE X b mb) (hm : behindInMarks op b = false := by rfl) : NT X (.Compare a [op] [b] pos) (tCmp (cIn neg) ma mb) := fun e s k s' h => by
  unfold tCmp at h
  split at h
  · rename_i x s1 e1
    split at h
    · rename_i y s2 e2
      split at h
      · rename_i k' ek
        cases h
        by_cases hd : ∃ j kvs, y = .r j ∧ s'[j]? = some (.dk kvs)
        · obtain ⟨j, kvs, rfl, hj⟩ := hd
          obtain ⟨dx, kk, rfl, hk, rfl⟩ := in_dk ek hj
          rcases hop with ⟨rfl, rfl⟩ | ⟨rfl, rfl⟩
          · refine PT.imp (pt_cmp (pc_din (by omega) (ha _ _ _ _ e1) (hb _ _ _ _ e2)) hm) fun σ H Q ⟨w, g, l, q⟩ => ⟨w, g, l, fun v w1 H1 l1 g1 v1 => ⟨w1, g1, l.up l1, fun u w2 H2 l2 g2 v2 => ?_⟩⟩
            obtain ⟨p1, xs, rfl, h2, h3, _⟩ := chg_dk g2 v2 hj
            have hv := keyOf_ok hk (v1.up l2)
            refine ⟨p1, valV xs kk, rfl, .inl ⟨xs, kk, .inl h2, hv, rfl⟩, _, rfl, ?_⟩
            rw [(h3.val (k := kk)).1]
            exact q w2 H2 (l1.trans l2) g2
          · refine PT.imp (pt_cmp (pc_dnotin (by omega) (ha _ _ _ _ e1) (hb _ _ _ _ e2)) hm) fun σ H Q ⟨w, g, l, q⟩ => ⟨w, g, l, fun v w1 H1 l1 g1 v1 => ⟨w1, g1, l.up l1, fun u w2 H2 l2 g2 v2 => ?_⟩⟩
            obtain ⟨p1, xs, rfl, h2, h3, _⟩ := chg_dk g2 v2 hj
            have hv := keyOf_ok hk (v1.up l2)
            refine ⟨p1, valV xs kk, rfl, .inl ⟨xs, kk, .inl h2, hv, rfl⟩, _, rfl, ?_⟩
            rw [(h3.val (k := kk)).1]
            exact q w2 H2 (l1.trans l2) g2
        · have nd : ∀ j kvs, y = .r j → s'[j]? ≠ some (.dk kvs) := fun j kvs e1 e2 => hd ⟨j, kvs, e1, e2⟩
          have go : ∀ {q : R2}, OpR X (compareOp op) q → BiN (ba X) q s' x y (.d (.bool k)) s' → PT X (.Compare a [op] [b] pos) (tT (ba X) e s k s') := fun hq hB => by
            refine PT.imp (pt_cmpR hq (ha _ _ _ _ e1) (hb _ _ _ _ e2) hm) fun σ H Q ⟨w, g, l, q'⟩ => ?_
            refine bi_run hB σ H _ ⟨w, g, l, fun v w' H' l' g' v' => ?_⟩
            exact ⟨k, vr_bl v', q' w' H' l' g'⟩
          rcases hop with ⟨rfl, rfl⟩ | ⟨rfl, rfl⟩
          · obtain ⟨q, hq, hB⟩ := cIn_ok Z.op_inZ (Z.op_inX (by omega)) hu ek nd
            exact go hq hB
          · obtain ⟨q, hq, hB⟩ := cIn_ok Z.op_ninZ (Z.op_ninX (by omega)) hu ek nd
            exact go hq hB
      · cases h
    · cases h
  · cases h
/-- d[k], keys ints and texts -/
def eIxK (ma mb : ME) : ME := eBin (fun s a b => match a, b with
  | .r j, .d x => match s[j]? with
    | some (.dk kvs) => match keyOf x with
      | some k => match kGet kvs k with
        | some d => some (d, s)
        | none => none
      | none => none
    | _ => none
  | _, _ => none) ma mb
theorem n_ixK (hu : X.A.units + 64 < cLine) (ha : NE X a ma) (hb : NE X b mb) (hs : NoSl b := by intro _ _; rfl) : NE X (.Subscript a b pos) (eIxK ma mb) := fun e s z s' h => by
  obtain ⟨x, s1, y, s2, e1, e2, e3⟩ := bin_cases h
  split at e3
  · rename_i j x
    split at e3
    · rename_i kvs e4
      split at e3
      · rename_i kk hk
        split at e3
        · rename_i d e5
          cases e3
          refine PE.imp (pe_dget (by omega) (ha _ _ _ _ e1) (hb _ _ _ _ e2) hs) fun σ H Q ⟨w, g, l, q⟩ => ⟨w, g, l, fun v w1 H1 l1 g1 v1 => ⟨w1, g1, l.up l1, fun u w2 H2 l2 g2 v2 => ?_⟩⟩
          obtain ⟨p1, xs, rfl, h2, h3, _⟩ := chg_dk g2 (v1.up l2) e4
          obtain ⟨vv, h4, h5⟩ := (h3.val (k := kk)).2 _ e5
          exact ⟨p1, vv, rfl, .inl ⟨xs, kk, .inl h2, keyOf_ok hk v2, h4.symm⟩, q _ w2 H2 (l1.trans l2) g2 h5⟩
        · cases e3
      · cases e3
    · cases e3
  · cases e3
noncomputable def eIt (ma mb : ME) : ME := fun e s => match eItem ma mb e s with
  | some r => some r
  | none => eIxK ma mb e s
theorem n_it (hu : X.A.units + 64 < cLine) (ha : NE X a ma) (hb : NE X b mb) (hs : PlainIx b := by intro _ _; rfl) (hs2 : NoSl b := by intro _ _; rfl) : NE X (.Subscript a b pos) (eIt ma mb) := fun e s z s' h => by
  unfold eIt at h
  split at h
  · rename_i r e1
    cases h
    exact n_item hu ha hb hs _ _ _ _ e1
  · exact n_ixK hu ha hb hs2 _ _ _ _ h
def sPutK (ma mi mv : ME) : MS := fun e s => match mv e s with
  | some (d, s1) => match ma e s1 with
    | some (.r j, s2) => match mi e s2 with
      | some (.d x, s3) => match s3[j]? with
        | some (.dk kvs) => match keyOf x with
          | some k => if kvs.length < lim then some (.nx, e, s3.set j (.dk (kPut kvs k d))) else none
          | none => none
        | _ => none
      | _ => none
    | _ => none
  | none => none
theorem ns_putK {tpos : Pos} {mi mv : ME} (hu : X.A.units + 64 < cLine) (hv : NE X ex mv) (ha : NE X a ma) (hi : NE X b mi) (hs : swapsWith ex (some (.Subscript a b tpos)) pos.line X.env = pure false := by rfl) : NS X (.Assign [.Subscript a b tpos] ex pos) (sPutK ma mi mv) := fun e s fl e' s' bb hm hb => by
  unfold sPutK at hm
  split at hm
  · rename_i d s1 e1
    split at hm
    · rename_i j s2 e2
      split at hm
      · rename_i x s3 e3
        split at hm
        · rename_i kvs e4
          split at hm
          · rename_i kk hk
            split at hm
            · rename_i hl
              cases hm
              refine Z.PS.imp (ps_dput (by omega) (ha _ _ _ _ e2) (hi _ _ _ _ e3) (hv _ _ _ _ e1) hs) fun Dn σ H ⟨w, g, l, k⟩ => ⟨w, g, l, fun v w1 H1 l1 g1 v1 => ⟨w1, g1, l.up l1, fun u w2 H2 l2 g2 v2 => ⟨w2, g2, (l.up l1).up l2, fun z w3 H3 l3 g3 v3 => ?_⟩⟩⟩
              obtain ⟨p1, xs, rfl, h2, h3, h4⟩ := chg_dk g3 (v2.up l3) e4
              refine ⟨p1, _, rfl, .inl ⟨xs, kk, h2, keyOf_ok hk v3, by rw [h3.len]; exact Nat.lt_trans hl lim_lt, rfl⟩, ?_⟩
              exact k w3 σ _ (((l1.trans l2).trans l3).cut bb) (h4 _ _ (h3.put ((v1.up l2).up l3))) (((l.up l1).up l2).up l3)
            · cases hm
          · cases hm
        · cases hm
      · cases hm
    · cases hm
  · cases hm
noncomputable def sPu (ma mi mv : ME) : MS := fun e s => match sPutU ma mi mv e s with
  | some r => some r
  | none => sPutK ma mi mv e s
theorem ns_pu {tpos : Pos} {mi mv : ME} (hu : X.A.units + 64 < cLine) (hv : NE X ex mv) (ha : NE X a ma) (hi : NE X b mi)
    (hsub : ∀ v, assign (.Subscript a b tpos) X.env v = (do
      let ov ← holding [v] (eval a X.env)
      let iv ← holding [v, ov] (eval b X.env)
      standAt tpos
      holding [v, ov, iv] (setItem ov iv v)
      release [v, ov, iv] []) := by intro _; rfl)
    (hs : swapsWithSole [.Subscript a b tpos] ex pos.line X.env = pure false := by rfl) (hw : swappedStores [.Subscript a b tpos] ex X.env = pure none := by rfl) (h1 : (assignEach [.Subscript a b tpos] X.env).map (·.2) = [assign (.Subscript a b tpos) X.env] := by rfl)
    (hs2 : swapsWith ex (some (.Subscript a b tpos)) pos.line X.env = pure false := by rfl) :
    NS X (.Assign [.Subscript a b tpos] ex pos) (sPu ma mi mv) := fun e s fl e' s' bb hm hb => by
  unfold sPu at hm
  split at hm
  · rename_i r e1
    cases hm
    exact ns_putU hu hv ha hi hsub hs hw h1 _ _ _ _ _ _ e1 hb
  · exact ns_putK hu hv ha hi hs2 _ _ _ _ _ _ hm hb

section
variable {scope : Scope} {own : List (Str × Nat)} {vs : List Nat} {mi : MI} {g : MG} {ek el : ME}
end
def bMaxL : FA := qL fun ds => match intsOf ds with
  | some ns => match ns.max? with
    | some m => some (.int m)
    | none => none
  | none => none
def bMinL : FA := qL fun ds => match intsOf ds with
  | some ns => match ns.min? with
    | some m => some (.int m)
    | none => none
  | none => none
theorem b_maxL (hk : X.calm = true) : CalS X (.builtin "max") bMaxL := qL_ok (cr_max hk) fun ds x e p vs w s H Q h1 h2 G k => by
  split at e
  · rename_i ns e1
    split at e
    · rename_i m e2
      cases e
      rw [ints_eq e1] at h2
      cases vrs_ints h2
      obtain ⟨m1, m2⟩ := List.max?_eq_some_iff.mp e2
      refine ⟨p, ns, rfl, h1, List.length_pos_of_mem m1, fun z hz hb => ?_⟩
      have : z = m := Int.le_antisymm (m2 z hz) (hb m m1)
      subst this
      exact k _ vi
    · cases e
  · cases e
theorem b_minL (hk : X.calm = true) : CalS X (.builtin "min") bMinL := qL_ok (cr_min hk) fun ds x e p vs w s H Q h1 h2 G k => by
  split at e
  · rename_i ns e1
    split at e
    · rename_i m e2
      cases e
      rw [ints_eq e1] at h2
      cases vrs_ints h2
      obtain ⟨m1, m2⟩ := List.min?_eq_some_iff.mp e2
      refine ⟨p, ns, rfl, h1, List.length_pos_of_mem m1, fun z hz hb => ?_⟩
      have : z = m := Int.le_antisymm (hb m m1) (m2 z hz)
      subst this
      exact k _ vi
    · cases e
  · cases e
end
end N

namespace N
open PySem L2 PyProof.Rows
open Z (Ext dpUp dpsUp dpsLen dpsGet DxO KyD DEn Cl cut offv bl Dfn)
/-- an object that is not told of -/
theorem Ok.ign {B : Ba} {w : W} {s : Sto} {H : Hp} (g : Ok B w s H) {p : Addr} {o : HO} (hp : H p = none) : Ok B w s (upd H p o) := by
  refine ⟨fun a u q => ?_, g.lr, g.nd, fun a ha => ?_, fun j c a h1 h2 => ?_⟩
  · have := g.ext a u q
    rw [upd_ne (ne_of_none this hp)]
    exact this
  · obtain ⟨u, hu⟩ := g.al a ha
    exact ⟨u, by rw [upd_ne (ne_of_none hu hp)]; exact hu⟩
  · have ha := List.mem_of_getElem? h2
    have ne : a ≠ p := fun e => g.notin hp (e ▸ ha)
    have k := g.ce j c a h1 h2
    exact k.up (W.le.refl w) (fun hn => hn) fun o ho => by rw [upd_ne ne]; exact ho
section
variable {X : Cx} {ex a b c tg iter tg1 iter1 elt e : Expr} {es ifs ifs1 elts : List Expr} {st : Stmt} {rest body orelse : List Stmt} {m ma mb mc : ME} {ms : MA} {mt mu : MT} {pos p q p2 tpos : Pos} {M M1 M2 : MS}

open Classical in
noncomputable def lc2L (k : Nat) (ck : Option (Nat × List D)) (g : MG) (mt : MT) (mi1 : MI) (g1 : MG) (mt1 : MT) (el : ME) (vs1 : List Nat) (e0 : Lo) : List D → Sto → Option Sto
  | [], s => if chkOk ck s then some s else none
  | x :: xs, s => if chkOk ck s then match g x e0 with
      | some e1 => match mt e1 s with
        | some (true, s1) => match mi1 e1 s1 with
          | some (items1, ck1, s2) => match lcL k ck1 g1 mt1 el (wipeN e1 vs1) items1 s2 with
            | some s3 => lc2L k ck g mt mi1 g1 mt1 el vs1 e0 xs s3
            | none => none
          | none => none
        | some (false, s1) => lc2L k ck g mt mi1 g1 mt1 el vs1 e0 xs s1
        | none => none
      | none => none
    else none
noncomputable def eLc2 (own : Bool) (vs vs1 : List Nat) (mi : MI) (g : MG) (mt : MT) (mi1 : MI) (g1 : MG) (mt1 : MT) (el : ME) : ME := fun e s => match mi e s with
  | some (items, ck, s1) => match lc2L s1.length ck g mt mi1 g1 mt1 el vs1 (wipeN e vs) items (s1 ++ [.lst []]) with
    | some s2 => lcFin own s1 s2
    | none => none
  | none => none
theorem lc2_run {mi mi1 : MI} {g g1 : MG} {mt1 : MT} {el : ME} {own : Bool} {vs vs1 : List Nat} {e : Lo} {s s' : Sto} {d : D} (h : eLc2 own vs vs1 mi g mt mi1 g1 mt1 el e s = some (d, s')) {wi wi1 : TI} (hw : ∀ items ck s1 σ H R, mi e s = some (items, ck, s1) → tI (ba X) e s items ck s1 σ H R → wi σ H R)
    (hw1 : ∀ e s items ck s1 σ H R, mi1 e s = some (items, ck, s1) → tI (ba X) e s items ck s1 σ H R → wi1 σ H R)
    {G G1 : TG} {TT' TT1 : TT} {EE : TE} (hG : ∀ s d e e' v σ H Q, g d e = some e' → tG (ba X) vs s d e e' v σ H Q → G v σ H Q) (hG1 : ∀ s d e e' v σ H Q, g1 d e = some e' → tG (ba X) vs1 s d e e' v σ H Q → G1 v σ H Q)
    (hT : ∀ e s b s' σ H Q, mt e s = some (b, s') → tT (ba X) e s b s' σ H Q → TT' σ H Q) (hT1 : ∀ e s b s' σ H Q, mt1 e s = some (b, s') → tT (ba X) e s b s' σ H Q → TT1 σ H Q) (hE : ∀ e s d s' σ H Q, el e s = some (d, s') → tE (ba X) e s d s' σ H Q → EE σ H Q) :
    ∀ σ H Q, tE (ba X) e s d s' σ H Q → tLc2 wi G TT' wi1 G1 TT1 EE vs vs1 σ H Q := by
  intro σ H Q ⟨w, g0, l, k⟩
  unfold eLc2 at h
  split at h
  · rename_i items ck s1 e1
    split at h
    · rename_i sF eF
      refine hw _ _ _ _ _ _ e1 ⟨w, g0, l, fun J w1 H1 l1 g1' ck1 wk D hD => ?_⟩
      have gD : Ok (ba X) ⟨w1.F, w1.ρ ++ [D]⟩ (s1 ++ [.lst []]) (upd H1 D (.lst [])) := g1'.new hD ⟨ext_none g1'.ext hD, [], upd_same, trivial⟩
      have lD : w1.le ⟨w1.F, w1.ρ ++ [D]⟩ := Ok.new_le
      have atD : (w1.ρ ++ [D])[s1.length]? = some D := by rw [← g1'.lr, List.getElem?_append_right (Nat.le_refl _), Nat.sub_self]; rfl
      refine ⟨fun i m H' => m = items.length - i ∧ i ≤ items.length ∧ ∃ s2 w2, lc2L s1.length ck g mt mi1 g1 mt1 el vs1 (wipeN e vs) (items.drop i) s2 = some sF ∧ W.le ⟨w1.F, w1.ρ ++ [D]⟩ w2 ∧ Ok (ba X) w2 s2 H', ⟨_, rfl, Nat.zero_le _, _, _, eF, W.le.refl _, gD⟩, ?_⟩
      rintro i m H' ⟨rfl, hi', s2, w2, hf, l2, g2⟩
      have slw : ∀ {w' : W}, W.le ⟨w1.F, w1.ρ ++ [D]⟩ w' → Sl (ba X) w' (wipeN e vs) (wipe σ vs) := fun h => (l.up ((l1.trans lD).trans h)).wipe vs
      by_cases hlt : i < items.length
      · rw [List.drop_eq_getElem_cons hlt] at hf
        unfold lc2L at hf
        split at hf
        · rename_i hck
          obtain ⟨wk1, _⟩ := wk w2 s2 H' (lD.trans l2) g2 hck
          obtain ⟨go, yl⟩ := wk1 i items[i] (List.getElem?_eq_getElem hlt)
          refine .inr ⟨go, fun H3 => ∃ s3 w3, lc2L s1.length ck g mt mi1 g1 mt1 el vs1 (wipeN e vs) (items.drop (i + 1)) s3 = some sF ∧ W.le ⟨w1.F, w1.ρ ++ [D]⟩ w3 ∧ Ok (ba X) w3 s3 H3, fun H3 h3 => ⟨items.length - (i + 1), by omega, rfl, hlt, h3⟩, fun v H4 y => ?_⟩
          obtain ⟨w4, l4, g4, v4⟩ := yl v H4 y
          cases hgx : g items[i] (wipeN e vs) with
          | none => rw [hgx] at hf; cases hf
          | some e3 =>
            rw [hgx] at hf
            refine hG _ _ _ _ _ _ _ _ hgx ⟨w4, g4, slw (l2.trans l4), v4, fun σ5 o l5 => ⟨Z.wipe_off o, ?_⟩⟩
            cases hM : mt e3 s2 with
            | none => simp only [hM] at hf; cases hf
            | some z =>
              obtain ⟨bb, s5⟩ := z
              simp only [hM] at hf
              refine hT _ _ _ _ _ _ _ hM ⟨w4, g4, l5, fun w6 H6 l6 g6 => ?_⟩
              cases bb with
              | false =>
                dsimp only
                rw [if_neg Bool.false_ne_true]
                exact ⟨s5, w6, hf, (l2.trans l4).trans l6, g6⟩
              | true =>
                dsimp only
                rw [if_pos rfl]
                cases hI1 : mi1 e3 s5 with
                | none => simp only [hI1] at hf; cases hf
                | some z =>
                  obtain ⟨items1, ckI, s7⟩ := z
                  simp only [hI1] at hf
                  cases hL : lcL s1.length ckI g1 mt1 el (wipeN e3 vs1) items1 s7 with
                  | none => simp only [hL] at hf; cases hf
                  | some sI =>
                    simp only [hL] at hf
                    refine hw1 _ _ _ _ _ _ _ _ hI1 ⟨w6, g6, l5.up l6, fun J1 w7 H7 l7 g7 ck7 wkI => ?_⟩
                    have l17 := ((l2.trans l4).trans l6).trans l7
                    refine ⟨fun j kk H' => kk = items1.length - j ∧ j ≤ items1.length ∧ ∃ s8 w8, lcL s1.length ckI g1 mt1 el (wipeN e3 vs1) (items1.drop j) s8 = some sI ∧ w7.le w8 ∧ Ok (ba X) w8 s8 H', ⟨_, rfl, Nat.zero_le _, s7, w7, hL, W.le.refl _, g7⟩, ?_⟩
                    rintro j kk H8 ⟨rfl, hj', s8, w8, hf8, l8, g8⟩
                    by_cases hlj : j < items1.length
                    · rw [List.drop_eq_getElem_cons hlj] at hf8
                      unfold lcL at hf8
                      split at hf8
                      · rename_i hckj
                        obtain ⟨wkJ, _⟩ := wkI w8 s8 H8 l8 g8 hckj
                        obtain ⟨goj, ylj⟩ := wkJ j items1[j] (List.getElem?_eq_getElem hlj)
                        refine .inr ⟨goj, fun H3 => ∃ s3 w3, lcL s1.length ckI g1 mt1 el (wipeN e3 vs1) (items1.drop (j + 1)) s3 = some sI ∧ w7.le w3 ∧ Ok (ba X) w3 s3 H3, fun H3 h3 => ⟨items1.length - (j + 1), by omega, rfl, hlj, h3⟩, fun v9 H9 y9 => ?_⟩
                        obtain ⟨w9, l9, g9, v9'⟩ := ylj v9 H9 y9
                        cases hgy : g1 items1[j] (wipeN e3 vs1) with
                        | none => rw [hgy] at hf8; cases hf8
                        | some e9 =>
                          rw [hgy] at hf8
                          have sl9 : Sl (ba X) w9 (wipeN e3 vs1) (wipe σ5 vs1) := (l5.up (((l6.trans l7).trans l8).trans l9)).wipe vs1
                          refine hG1 _ _ _ _ _ _ _ _ hgy ⟨w9, g9, sl9, v9', fun σ9 o9 lo9 => ⟨Z.wipe_off o9, ?_⟩⟩
                          cases hM1 : mt1 e9 s8 with
                          | none => simp only [hM1] at hf8; cases hf8
                          | some z =>
                            obtain ⟨b2, s10⟩ := z
                            simp only [hM1] at hf8
                            refine hT1 _ _ _ _ _ _ _ hM1 ⟨w9, g9, lo9, fun w10 H10 l10 g10 => ?_⟩
                            cases b2 with
                            | false =>
                              dsimp only
                              rw [if_neg Bool.false_ne_true]
                              exact ⟨s10, w10, hf8, (l8.trans l9).trans l10, g10⟩
                            | true =>
                              dsimp only
                              rw [if_pos rfl]
                              cases hE2 : el e9 s10 with
                              | none => simp only [hE2] at hf8; cases hf8
                              | some z =>
                                obtain ⟨yd, s11⟩ := z
                                simp only [hE2] at hf8
                                refine hE _ _ _ _ _ _ _ hE2 ⟨w10, g10, lo9.up l10, fun u w11 H11 l11 g11 v11 => ?_⟩
                                have l711 := ((l8.trans l9).trans l10).trans l11
                                have at11 : w11.ρ[s1.length]? = some D := pre_get (l17.trans l711).ρ atD
                                split at hf8
                                · rename_i acc e8
                                  split at hf8
                                  · rename_i hl
                                    obtain ⟨a9, vs9, q1, q2, q3, q4⟩ := chg_lst (v := .ref D) g11 ⟨D, at11, rfl⟩ e8
                                    cases q1
                                    exact ⟨vs9, q2, by rw [q3.len]; exact Nat.lt_trans hl lim_lt, _, w11, hf8, l711, q4 _ _ (q3.app ⟨v11, trivial⟩)⟩
                                  · cases hf8
                                · cases hf8
                      · cases hf8
                    · have ej : j = items1.length := by omega
                      subst ej
                      rw [List.drop_length] at hf8
                      unfold lcL at hf8
                      split at hf8
                      · rename_i hckj
                        cases hf8
                        obtain ⟨_, stj⟩ := wkI w8 _ H8 l8 g8 hckj
                        exact .inl ⟨stj, _, w8, hf, l17.trans l8, g8⟩
                      · cases hf8
        · cases hf
      · have e' : i = items.length := by omega
        subst e'
        rw [List.drop_length] at hf
        unfold lc2L at hf
        split at hf
        · rename_i hck
          cases hf
          obtain ⟨_, st⟩ := wk w2 _ H' (lD.trans l2) g2 hck
          obtain ⟨w3, a1, a2, a3⟩ := mkFin_ok h g1' (lD.trans l2) (pre_get l2.ρ atD) g2
          exact .inl ⟨st, k _ w3 H' (l1.trans a1) a2 a3⟩
        · cases hf
    · cases h
  · cases h
section
variable {scope : Scope} {own : List (Str × Nat)} {ow : Bool} {vs vs1 : List Nat} {mi mi1 : MI} {g g1 : MG} {mt1 : MT} {el : ME}
theorem n_lc2 (hi : NI X tg iter mi) (hg : ∀ z, NG (bl X scope z) tg vs g) (ht : ∀ z, NTs (bl X scope z) ifs mt) (hi1 : ∀ z, NI (bl X scope z) tg1 iter1 mi1) (hg1 : ∀ z, NG (bl X scope z) tg1 vs1 g1) (ht1 : ∀ z, NTs (bl X scope z) ifs1 mt1) (he : ∀ z, NE (bl X scope z) elt el) (hN : X.N.Nodup) (ok : BlkOk X.N X.env.scope scope own) (hvs : own.map (·.2) = vs := by rfl) (hv : ∀ i ∈ vs1, i ∈ own.map (·.2) := by decide) (hc : X.calm = true := by rfl) (hs : ∀ x, foldedSetIterable iter X.env x = pure x := by intro _; rfl) (hs1 : ∀ env x, foldedSetIterable iter1 env x = pure x := by intro _ _; rfl) :
    NE X (.ListComp elt [⟨tg, iter, ifs, 0⟩, ⟨tg1, iter1, ifs1, 0⟩] scope pos) (eLc2 ow vs vs1 mi g mt mi1 g1 mt1 el) := fun e s d s' h => by
  subst hvs
  refine PE.imp (pe_lc2 hc hN hi.fam ok hv (fun sh H C cl fp => (show PG (X.blk sh H scope (compEnvC scope cl C X.env) fp) tg (fun v σ H Q => ∃ s d e e', g d e = some e' ∧ tG (ba X) (own.map (·.2)) s d e e' v σ H Q) from (hg (sh, H, C, cl, fp)).fam))
    (fun sh H C cl fp => (⟨fun pins sh' σ H' Q I ⟨e, s, b, s', hm, q⟩ => (ht (sh, H, C, cl, fp) e s b s' hm).run pins sh' σ H' Q I q⟩ : PTs _ ifs (fun σ H Q => ∃ e s b s', mt e s = some (b, s') ∧ tT (ba X) e s b s' σ H Q)))
    (fun sh H C cl fp => (show PI (X.blk sh H scope (compEnvC scope cl C X.env) fp) tg1 iter1 (fun σ H R => ∃ e s items ck s1, mi1 e s = some (items, ck, s1) ∧ tI (ba X) e s items ck s1 σ H R) from (hi1 (sh, H, C, cl, fp)).fam))
    (fun sh H C cl fp => (show PG (X.blk sh H scope (compEnvC scope cl C X.env) fp) tg1 (fun v σ H Q => ∃ s d e e', g1 d e = some e' ∧ tG (ba X) vs1 s d e e' v σ H Q) from (hg1 (sh, H, C, cl, fp)).fam))
    (fun sh H C cl fp => (⟨fun pins sh' σ H' Q I ⟨e, s, b, s', hm, q⟩ => (ht1 (sh, H, C, cl, fp) e s b s' hm).run pins sh' σ H' Q I q⟩ : PTs _ ifs1 (fun σ H Q => ∃ e s b s', mt1 e s = some (b, s') ∧ tT (ba X) e s b s' σ H Q)))
    (fun sh H C cl fp => (show PE (X.blk sh H scope (compEnvC scope cl C X.env) fp) elt (fun σ H Q => ∃ e s d s', el e s = some (d, s') ∧ tE (ba X) e s d s' σ H Q) from (he (sh, H, C, cl, fp)).fam)) hs hs1) ?_
  exact lc2_run h (fun items ck s1 σ H R h1 h2 => ⟨e, s, items, ck, s1, h1, h2⟩) (fun e s items ck s1 σ H R h1 h2 => ⟨e, s, items, ck, s1, h1, h2⟩) (fun s d e e' v σ H Q h1 h2 => ⟨s, d, e, e', h1, h2⟩) (fun s d e e' v σ H Q h1 h2 => ⟨s, d, e, e', h1, h2⟩) (fun e s b s' σ H Q h1 h2 => ⟨e, s, b, s', h1, h2⟩) (fun e s b s' σ H Q h1 h2 => ⟨e, s, b, s', h1, h2⟩) (fun e s d s' σ H Q h1 h2 => ⟨e, s, d, s', h1, h2⟩)
theorem ns_setLc2 {y : Str} {py spos : Pos} (i : Nat) (hi : NI X tg iter mi) (hg : ∀ z, NG (bl X scope z) tg vs g) (ht : ∀ z, NTs (bl X scope z) ifs mt) (hi1 : ∀ z, NI (bl X scope z) tg1 iter1 mi1) (hg1 : ∀ z, NG (bl X scope z) tg1 vs1 g1) (ht1 : ∀ z, NTs (bl X scope z) ifs1 mt1) (he : ∀ z, NE (bl X scope z) elt el) (hN : X.N.Nodup) (ok : BlkOk X.N X.env.scope scope own) (hvs : own.map (·.2) = vs := by rfl) (hv : ∀ i ∈ vs1, i ∈ own.map (·.2) := by decide) (hc : X.calm = true := by rfl) (hs : ∀ x, foldedSetIterable iter X.env x = pure x := by intro _; rfl) (hs1 : ∀ env x, foldedSetIterable iter1 env x = pure x := by intro _ _; rfl)
    (hy : X.N[i]? = some y := by rfl) (hyl : X.env.scope.names.lookup y = some .local := by rfl) (hsw : swapsWith (.ListComp elt [⟨tg, iter, ifs, 0⟩, ⟨tg1, iter1, ifs1, 0⟩] scope pos) (some (.Name y py)) spos.line X.env = pure true := by rfl) :
    NS X (.Assign [.Name y py] (.ListComp elt [⟨tg, iter, ifs, 0⟩, ⟨tg1, iter1, ifs1, 0⟩] scope pos) spos) (sSet i (eLc2 ow vs vs1 mi g mt mi1 g1 mt1 el)) := fun e s fl e' s' b hm hb => by
  subst hvs
  unfold sSet at hm
  split at hm
  · rename_i d s1 h
    cases hm
    refine Z.PS.imp (ps_setLc2 hc hN hy hyl hsw hi.fam ok hv (fun sh H C cl fp => (show PG (X.blk sh H scope (compEnvC scope cl C X.env) fp) tg (fun v σ H Q => ∃ s d e e', g d e = some e' ∧ tG (ba X) (own.map (·.2)) s d e e' v σ H Q) from (hg (sh, H, C, cl, fp)).fam))
    (fun sh H C cl fp => (⟨fun pins sh' σ H' Q I ⟨e, s, b, s', hm, q⟩ => (ht (sh, H, C, cl, fp) e s b s' hm).run pins sh' σ H' Q I q⟩ : PTs _ ifs (fun σ H Q => ∃ e s b s', mt e s = some (b, s') ∧ tT (ba X) e s b s' σ H Q)))
    (fun sh H C cl fp => (show PI (X.blk sh H scope (compEnvC scope cl C X.env) fp) tg1 iter1 (fun σ H R => ∃ e s items ck s1, mi1 e s = some (items, ck, s1) ∧ tI (ba X) e s items ck s1 σ H R) from (hi1 (sh, H, C, cl, fp)).fam))
    (fun sh H C cl fp => (show PG (X.blk sh H scope (compEnvC scope cl C X.env) fp) tg1 (fun v σ H Q => ∃ s d e e', g1 d e = some e' ∧ tG (ba X) vs1 s d e e' v σ H Q) from (hg1 (sh, H, C, cl, fp)).fam))
    (fun sh H C cl fp => (⟨fun pins sh' σ H' Q I ⟨e, s, b, s', hm, q⟩ => (ht1 (sh, H, C, cl, fp) e s b s' hm).run pins sh' σ H' Q I q⟩ : PTs _ ifs1 (fun σ H Q => ∃ e s b s', mt1 e s = some (b, s') ∧ tT (ba X) e s b s' σ H Q)))
    (fun sh H C cl fp => (show PE (X.blk sh H scope (compEnvC scope cl C X.env) fp) elt (fun σ H Q => ∃ e s d s', el e s = some (d, s') ∧ tE (ba X) e s d s' σ H Q) from (he (sh, H, C, cl, fp)).fam)) hs hs1) fun Dn σ H ⟨w, G, l, k⟩ => ?_
    refine lc2_run h (fun items ck s1 σ H R h1 h2 => ⟨e, s, items, ck, s1, h1, h2⟩) (fun e s items ck s1 σ H R h1 h2 => ⟨e, s, items, ck, s1, h1, h2⟩) (fun s d e e' v σ H Q h1 h2 => ⟨s, d, e, e', h1, h2⟩) (fun s d e e' v σ H Q h1 h2 => ⟨s, d, e, e', h1, h2⟩) (fun e s b s' σ H Q h1 h2 => ⟨e, s, b, s', h1, h2⟩) (fun e s b s' σ H Q h1 h2 => ⟨e, s, b, s', h1, h2⟩) (fun e s d s' σ H Q h1 h2 => ⟨e, s, d, s', h1, h2⟩) σ H _ ⟨w, G, l, fun v w1 H1 l1 g1 v1 => ?_⟩
    exact k w1 _ H1 (l1.cut b) g1 ((l.up l1).put i v1)
  · cases hm
end
end
end N

namespace N
open PySem L2 PyProof.Rows
open Z (Ext dpUp dpsUp dpsLen dpsGet DxO KyD DEn Cl cut offv bl Dfn)

section
variable {X : Cx} {pins : List (Addr × Obj)} {σ : L2.St} {H : Hp} {s : Shared}
end

theorem DR.keys {B : Ba} {w : W} : ∀ {xs : List DEn} {kvs : List (PyData × D)}, DR B w xs kvs → xs.map (·.1) = kvs.map (·.1)
  | [], [], _ => rfl
  | e :: xs, kv :: kvs, ⟨h1, h2⟩ => by rw [List.map_cons, List.map_cons, h1.1, DR.keys h2]
  | [], _ :: _, h => h.elim
  | _ :: _, [], h => h.elim
section
variable {X : Cx}
theorem tup_ints {H : Hp} {w : W} {v : V} {xs : List PyData} {ns : List Int} {s : Sto} (G : Ok (ba X) w s H) (hv : VR (ba X) w v (.d (.tuple xs))) (e : intsOf (xs.map .d) = some ns) : ∃ a, v = .ref a ∧ SqT X.K H a (ns.map V.int) := by
  obtain ⟨a, vs, rfl, h1, h2⟩ := dp_tup hv
  have h3 : VRs (ba X) w vs (xs.map .d) := VRs.data.mpr h2
  rw [ints_eq e] at h3
  have := vrs_ints h3
  subst this
  exact ⟨a, rfl, G.ext.t h1⟩
end
end N

namespace N
open PySem L2 PyProof.Rows
open Z (Ext dpUp dpsUp dpsLen dpsGet DxO KyD DEn Cl cut offv bl Dfn)

section
variable {X : Cx} {pins : List (Addr × Obj)} {σ : L2.St} {H : Hp} {s : Shared}
end
end N

namespace N
open PySem L2 PyProof.Rows

theorem safe_self (s : Sto) : Safe s s := ⟨Nat.le_refl _, fun j c _ h => .inl h⟩
theorem safe_app (s g : Sto) : Safe s (s ++ g) := ⟨by simp, fun j c hj h => .inl (by rwa [List.getElem?_append_left hj] at h)⟩
@[simp] theorem trim_self (s : Sto) : trim s s = s := by unfold trim; rw [if_pos (safe_self s), List.take_length]
@[simp] theorem trim_app (s g : Sto) : trim s (s ++ g) = s := by unfold trim; rw [if_pos (safe_app s g), List.take_left]
@[simp] theorem trimE_self (s : Sto) (e : Lo) : trimE s e s = s := by unfold trimE; split <;> simp
@[simp] theorem ret_d (own : Bool) (s : Sto) (x : PyData) (s' : Sto) : ret own s (.d x) s' = some (.d x, trim s s') := rfl
theorem ck_none (s : Sto) : chkOk none s := trivial
theorem lcL_pure {k : Nat} {ck : Option (Nat × List D)} {g : MG} {mt : MT} {el : ME} {e0 : Lo} {s : Sto} {α : Type} {enc : α → D} (f : α → D) (p : α → Bool) (hk : k = s.length) (hck : ∀ acc, chkOk ck (s ++ [.lst acc])) : ∀ (l : List α) (acc : List D), (∀ x ∈ l, ∀ acc, ∃ e1, g (enc x) e0 = some e1 ∧ mt e1 (s ++ [.lst acc]) = some (p x, s ++ [.lst acc]) ∧ (p x = true → el e1 (s ++ [.lst acc]) = some (f x, s ++ [.lst acc]))) → acc.length + l.length ≤ lim →
    lcL k ck g mt el e0 (l.map enc) (s ++ [.lst acc]) = some (s ++ [.lst (acc ++ (l.filter p).map f)])
  | [], acc, _, _ => by
    rw [List.map_nil]
    unfold lcL
    rw [if_pos (hck acc)]
    simp
  | x :: l, acc, h, hl => by
    obtain ⟨e1, h1, h2, h3⟩ := h x List.mem_cons_self acc
    rw [List.map_cons]
    unfold lcL
    rw [if_pos (hck acc)]
    simp only [h1, h2]
    rw [List.length_cons] at hl
    cases hp : p x with
    | false =>
      simp only []
      rw [lcL_pure f p hk hck l acc (fun y hy => h y (List.mem_cons_of_mem _ hy)) (by omega), List.filter_cons_of_neg (by simp [hp])]
    | true =>
      simp only [h3 hp]
      subst hk
      rw [List.getElem?_append_right (Nat.le_refl _), Nat.sub_self]
      simp only [List.getElem?_cons_zero]
      rw [if_pos (by omega), List.set_append_right _ _ (Nat.le_refl _), Nat.sub_self]
      simp only [List.set_cons_zero]
      rw [lcL_pure f p rfl hck l _ (fun y hy => h y (List.mem_cons_of_mem _ hy)) (by rw [List.length_append]; simp; omega), List.filter_cons_of_pos hp]
      simp
theorem lcFin_d (s : Sto) (xs : List PyData) : lcFin false s (s ++ [.lst (xs.map .d)]) = some (.d (.list xs), s) := by
  unfold lcFin
  rw [List.getElem?_append_right (Nat.le_refl _), Nat.sub_self]
  simp only [List.getElem?_cons_zero, data_map, Bool.false_eq_true, if_false]
  congr 2
  rw [List.set_append_right _ _ (Nat.le_refl _)]
  exact trim_app _ _
theorem eLc_d {vs : List Nat} {mi : MI} {g : MG} {mt : MT} {el : ME} {e : Lo} {s s1 : Sto} {α : Type} {enc : α → D} {l : List α} (f : α → PyData) (p : α → Bool) (hi : mi e s = some (l.map enc, none, s1)) (h : ∀ x ∈ l, ∀ acc, ∃ e1, g (enc x) (wipeN e vs) = some e1 ∧ mt e1 (s1 ++ [.lst acc]) = some (p x, s1 ++ [.lst acc]) ∧ (p x = true → el e1 (s1 ++ [.lst acc]) = some (.d (f x), s1 ++ [.lst acc]))) (hl : l.length ≤ lim) :
    eLc false vs mi g mt el e s = some (.d (.list ((l.filter p).map f)), s1) := by
  unfold eLc
  simp only [hi]
  rw [lcL_pure (fun x => .d (f x)) p rfl (fun _ => ck_none _) l [] h (by simpa using hl)]
  simp only [List.nil_append]
  have := lcFin_d s1 ((l.filter p).map f)
  rw [List.map_map] at this
  exact this
/-- .. whose turns change the store below: what is kept -/
theorem lcL_inv {k : Nat} {g : MG} {mt : MT} {el : ME} {e0 : Lo} {α : Type} {enc : α → D} (Iv : Nat → List D → Sto → Prop) (hk : ∀ i acc s, Iv i acc s → s.length = k) : ∀ (l : List α) (n : Nat) (acc : List D) (s : Sto), (∀ i x acc s, l[i]? = some x → Iv (n + i) acc s → ∃ e1, g (enc x) e0 = some e1 ∧ ((∃ s', mt e1 (s ++ [.lst acc]) = some (false, s' ++ [.lst acc]) ∧ Iv (n + i + 1) acc s') ∨
      ∃ s1 y s', mt e1 (s ++ [.lst acc]) = some (true, s1) ∧ el e1 s1 = some (y, s' ++ [.lst acc]) ∧ Iv (n + i + 1) (acc ++ [y]) s')) → acc.length + l.length ≤ lim → Iv n acc s →
    ∃ acc' s', lcL k none g mt el e0 (l.map enc) (s ++ [.lst acc]) = some (s' ++ [.lst acc']) ∧ Iv (n + l.length) acc' s'
  | [], n, acc, s, h, hl, h0 => by
    rw [List.map_nil]
    unfold lcL
    rw [if_pos (ck_none _)]
    exact ⟨acc, s, rfl, h0⟩
  | x :: l, n, acc, s, h, hl, h0 => by
    obtain ⟨e1, h1, h2⟩ := h 0 x acc s rfl h0
    rw [List.map_cons]
    unfold lcL
    rw [if_pos (ck_none _)]
    simp only [h1]
    rw [List.length_cons] at hl
    have en : n + 1 + l.length = n + (x :: l).length := by simp; omega
    have hh : ∀ i y acc s, l[i]? = some y → Iv (n + 1 + i) acc s → _ := fun i y acc s hy hi => by
      have := h (i + 1) y acc s (by simpa using hy) (by rw [show n + (i + 1) = n + 1 + i by omega]; exact hi)
      rw [show n + (i + 1) = n + 1 + i by omega] at this
      exact this
    rcases h2 with ⟨s', h3, h4⟩ | ⟨s1, y, s', h3, h4, h5⟩
    · simp only [h3]
      obtain ⟨acc', s2, h6, h7⟩ := lcL_inv Iv hk l (n + 1) acc s' hh (by omega) h4
      exact ⟨acc', s2, h6, by rw [← en]; exact h7⟩
    · simp only [h3, h4]
      have hk' := hk _ _ _ h5
      rw [List.getElem?_append_right (by omega), show k - s'.length = 0 by omega]
      simp only [List.getElem?_cons_zero]
      rw [if_pos (by omega), List.set_append_right _ _ (by omega), show k - s'.length = 0 by omega]
      simp only [List.set_cons_zero]
      obtain ⟨acc', s2, h6, h7⟩ := lcL_inv Iv hk l (n + 1) (acc ++ [y]) s' hh (by rw [List.length_append]; simp; omega) h5
      exact ⟨acc', s2, h6, by rw [← en]; exact h7⟩
end N

namespace N
open PySem L2 PyProof.Rows
open Z (Ext dpUp dpsUp dpsLen dpsGet DxO KyD DEn)
section
variable {X : Cx} {a b : Expr} {ms : MA} {pos : Pos}
/-- x, y = a, b, where x or y is read by an inner part too: the pair is made, then taken apart -/
theorem ns_parC2 {x y : Str} {px py pt pt2 : Pos} {kt k2 : Nat} (i j : Nat) (ha : NA X [a, b] ms) (hN : X.N.Nodup) (hc : X.calm = true := by rfl) (hx : X.N[i]? = some x := by rfl) (hy : X.N[j]? = some y := by rfl)
    (hlx : Loc X.env.scope x := by first | exact .inl rfl | exact .inr rfl) (hly : Loc X.env.scope y := by first | exact .inl rfl | exact .inr rfl)
    (hfx : X.fn x = true ∨ X.env.scope.names.lookup x = some .local := by first | exact .inl rfl | exact .inr rfl) (hfy : X.fn y = true ∨ X.env.scope.names.lookup y = some .local := by first | exact .inl rfl | exact .inr rfl)
    (hs : swapsWithSole [.Tuple [.Name x px, .Name y py] kt pt] (.Tuple [a, b] k2 pt2) pos.line X.env = pure false := by rfl) (hw : swappedStores [.Tuple [.Name x px, .Name y py] kt pt] (.Tuple [a, b] k2 pt2) X.env = pure none := by rfl) :
    NS X (.Assign [.Tuple [.Name x px, .Name y py] kt pt] (.Tuple [a, b] k2 pt2) pos) (sPar [i, j] ms) := fun e s fl e' s' bb hm hb => by
  unfold sPar at hm
  split at hm
  · rename_i ds s1 e1
    split at hm
    · rename_i hl
      cases hm
      match ds, hl with
      | [d1, d2], _ =>
        refine Z.PS.imp (ps_asg (pe_tup (ha _ _ _ _ e1)) (pg_tup hc (pgs_cons (pg_name hN hx hlx hfx) (pgs_cons (pg_name hN hy hly hfy) pgs_nil)) (n := 2)) hs hw) fun Dn σ H ⟨w, g, l, k⟩ => ⟨w, g, l, fun us w1 H1 l1 g1 v1 => ?_⟩
        obtain ⟨u, v, rfl, h1, h2⟩ := vrs2 v1
        refine ⟨(by decide : 2 ≤ sizeLine), fun q hq => ⟨q, [u, v], rfl, .of upd_same, rfl, u, [v], rfl, v, [], rfl, rfl, ?_⟩⟩
        have l2 := g1.frz_le (o := .tup [u, v]) hq
        have g2 := g1.frz (o := .tup [u, v]) hq
        exact k _ _ _ ((l1.trans l2).cut bb) g2 (((l.up (l1.trans l2)).put i (h1.up l2)).put j (h2.up l2))
    · cases hm
  · cases hm
end
end N



namespace N
open PySem L2 PyProof.Rows

def R {α : Type} (o : Option (α × Sto)) (Q : α → Sto → Prop) : Prop := ∃ x s, o = some (x, s) ∧ Q x s
def Rc {α : Type} (o : Option α) (Q : α → Prop) : Prop := ∃ x, o = some x ∧ Q x
def Rs (o : Option (Fl × Lo × Sto)) (Q : Fl → Lo → Sto → Prop) : Prop := ∃ fl e s, o = some (fl, e, s) ∧ Q fl e s
def Ri (o : Option (List D × Option (Nat × List D) × Sto)) (Q : List D → Option (Nat × List D) → Sto → Prop) : Prop := ∃ l ck s, o = some (l, ck, s) ∧ Q l ck s
section
variable {α : Type}
@[simp] theorem R_some {x : α} {s : Sto} {Q : α → Sto → Prop} : R (some (x, s)) Q ↔ Q x s := ⟨fun ⟨_, _, h, q⟩ => by cases h; exact q, fun q => ⟨_, _, rfl, q⟩⟩
@[simp] theorem R_none {Q : α → Sto → Prop} : R none Q ↔ False := ⟨fun ⟨_, _, h, _⟩ => (by cases h), False.elim⟩
@[simp] theorem Rc_some {x : α} {Q : α → Prop} : Rc (some x) Q ↔ Q x := ⟨fun ⟨_, h, q⟩ => by cases h; exact q, fun q => ⟨_, rfl, q⟩⟩
@[simp] theorem Rc_none {Q : α → Prop} : Rc none Q ↔ False := ⟨fun ⟨_, h, _⟩ => (by cases h), False.elim⟩
@[simp] theorem Rs_some {fl : Fl} {e : Lo} {s : Sto} {Q : Fl → Lo → Sto → Prop} : Rs (some (fl, e, s)) Q ↔ Q fl e s := ⟨fun ⟨_, _, _, h, q⟩ => by cases h; exact q, fun q => ⟨_, _, _, rfl, q⟩⟩
@[simp] theorem Rs_none {Q : Fl → Lo → Sto → Prop} : Rs none Q ↔ False := ⟨fun ⟨_, _, _, h, _⟩ => (by cases h), False.elim⟩
@[simp] theorem Ri_some {l : List D} {ck : Option (Nat × List D)} {s : Sto} {Q : List D → Option (Nat × List D) → Sto → Prop} : Ri (some (l, ck, s)) Q ↔ Q l ck s := ⟨fun ⟨_, _, _, h, q⟩ => by cases h; exact q, fun q => ⟨_, _, _, rfl, q⟩⟩
@[simp] theorem Ri_none {Q : List D → Option (Nat × List D) → Sto → Prop} : Ri none Q ↔ False := ⟨fun ⟨_, _, _, h, _⟩ => (by cases h), False.elim⟩
theorem R.imp {o : Option (α × Sto)} {Q Q' : α → Sto → Prop} (h : R o Q) (k : ∀ x s, Q x s → Q' x s) : R o Q' := by
  obtain ⟨x, s, e, q⟩ := h
  exact ⟨x, s, e, k _ _ q⟩
theorem Rc.imp {o : Option α} {Q Q' : α → Prop} (h : Rc o Q) (k : ∀ x, Q x → Q' x) : Rc o Q' := by
  obtain ⟨x, e, q⟩ := h
  exact ⟨x, e, k _ q⟩
theorem Rs.imp {o : Option (Fl × Lo × Sto)} {Q Q' : Fl → Lo → Sto → Prop} (h : Rs o Q) (k : ∀ fl e s, Q fl e s → Q' fl e s) : Rs o Q' := by
  obtain ⟨x, e, s, h, q⟩ := h
  exact ⟨x, e, s, h, k _ _ _ q⟩
theorem R.of {o : Option (α × Sto)} {x : α} {s : Sto} {Q : α → Sto → Prop} (h : o = some (x, s)) (q : Q x s) : R o Q := ⟨x, s, h, q⟩
theorem R.eq {o : Option (α × Sto)} {x : α} {s : Sto} (h : R o fun y s' => y = x ∧ s' = s) : o = some (x, s) := by
  obtain ⟨_, _, h, rfl, rfl⟩ := h
  exact h
theorem Rs.of {o : Option (Fl × Lo × Sto)} {fl : Fl} {e : Lo} {s : Sto} {Q : Fl → Lo → Sto → Prop} (h : o = some (fl, e, s)) (q : Q fl e s) : Rs o Q := ⟨_, _, _, h, q⟩
end
section
variable {e : Lo} {s : Sto} {Q : D → Sto → Prop} {Qt : Bool → Sto → Prop} {Qa : List D → Sto → Prop} {Qs : Fl → Lo → Sto → Prop} {Qo : Option Int → Sto → Prop} {Qi : List D → Option (Nat × List D) → Sto → Prop}
@[simp] theorem R_C (x : PyData) : R (eC x e s) Q ↔ Q (.d x) s := R_some
@[simp] theorem R_Var (i : Nat) : R (eVar i e s) Q ↔ match e[i]? with
  | some (some d) => Q d s
  | _ => False := by
  unfold eVar
  rcases e[i]? with _ | _ | d <;> simp
@[simp] theorem R_nil : R (aNil e s) Qa ↔ Qa [] s := R_some
@[simp] theorem R_cons (m : ME) (ms : MA) : R (aCons m ms e s) Qa ↔ R (m e s) fun d s1 => R (ms e s1) fun ds s2 => Qa (d :: ds) s2 := by
  unfold aCons
  rcases m e s with _ | ⟨d, s1⟩
  · simp
  · rcases h : ms e s1 with _ | ⟨ds, s2⟩ <;> simp [h]
@[simp] theorem R_bin (f : FB) (ma mb : ME) : R (eBin f ma mb e s) Q ↔ R (ma e s) fun x s1 => R (mb e s1) fun y s2 => R (f s2 x y) Q := by
  unfold eBin
  rcases ma e s with _ | ⟨d, s1⟩
  · simp
  · rcases h : mb e s1 with _ | ⟨ds, s2⟩ <;> simp [h]
@[simp] theorem R_cmp (f : FC) (ma mb : ME) : R (eCmp f ma mb e s) Q ↔ R (ma e s) fun x s1 => R (mb e s1) fun y s2 => Rc (f s2 x y) fun k => Q (.d (.bool k)) s2 := by
  unfold eCmp eBin
  rcases ma e s with _ | ⟨d, s1⟩
  · simp
  · rcases h : mb e s1 with _ | ⟨ds, s2⟩
    · simp [h]
    · rcases h2 : f s2 d ds with _ | k <;> simp [h, h2]
@[simp] theorem R_tcmp (f : FC) (ma mb : ME) : R (tCmp f ma mb e s) Qt ↔ R (ma e s) fun x s1 => R (mb e s1) fun y s2 => Rc (f s2 x y) fun k => Qt k s2 := by
  unfold tCmp
  rcases ma e s with _ | ⟨d, s1⟩
  · simp
  · rcases h : mb e s1 with _ | ⟨ds, s2⟩
    · simp [h]
    · rcases h2 : f s2 d ds with _ | k <;> simp [h, h2]
@[simp] theorem R_call (f : FA) (ms : MA) : R (eCall f ms e s) Q ↔ R (ms e s) fun ds s1 => R (f s1 ds) Q := by
  unfold eCall
  rcases ms e s with _ | ⟨d, s1⟩ <;> simp
@[simp] theorem R_ite (mt : MT) (ma mb : ME) : R (eIte mt ma mb e s) Q ↔ R (mt e s) fun k s1 => (k = true → R (ma e s1) Q) ∧ (k = false → R (mb e s1) Q) := by
  unfold eIte
  rcases mt e s with _ | ⟨_ | _, s1⟩ <;> simp
@[simp] theorem R_tVal (m : ME) : R (tVal m e s) Qt ↔ R (m e s) fun d s1 => Rc (truD s1 d) fun k => Qt k s1 := by
  unfold tVal
  rcases m e s with _ | ⟨d, s1⟩
  · simp
  · rcases h : truD s1 d with _ | k <;> simp [h]
@[simp] theorem R_tTrue : R (tTrue e s) Qt ↔ Qt true s := R_some
@[simp] theorem R_tNot (mt : MT) : R (tNot mt e s) Qt ↔ R (mt e s) fun k s1 => Qt (!k) s1 := by
  unfold tNot
  rcases mt e s with _ | ⟨k, s1⟩ <;> simp
@[simp] theorem R_tAnd (mt mu : MT) : R (tAnd mt mu e s) Qt ↔ R (mt e s) fun k s1 => (k = true → R (mu e s1) Qt) ∧ (k = false → Qt false s1) := by
  unfold tAnd
  rcases mt e s with _ | ⟨_ | _, s1⟩ <;> simp
@[simp] theorem R_tOr (mt mu : MT) : R (tOr mt mu e s) Qt ↔ R (mt e s) fun k s1 => (k = false → R (mu e s1) Qt) ∧ (k = true → Qt true s1) := by
  unfold tOr
  rcases mt e s with _ | ⟨_ | _, s1⟩ <;> simp
@[simp] theorem R_eAnd (ma mb : ME) : R (eAnd ma mb e s) Q ↔ R (ma e s) fun d s1 => Rc (truD s1 d) fun k => (k = true → R (mb e s1) Q) ∧ (k = false → Q d s1) := by
  unfold eAnd
  rcases ma e s with _ | ⟨d, s1⟩
  · simp
  · rcases h : truD s1 d with _ | _ | _ <;> simp [h]
@[simp] theorem R_eOr (ma mb : ME) : R (eOr ma mb e s) Q ↔ R (ma e s) fun d s1 => Rc (truD s1 d) fun k => (k = false → R (mb e s1) Q) ∧ (k = true → Q d s1) := by
  unfold eOr
  rcases ma e s with _ | ⟨d, s1⟩
  · simp
  · rcases h : truD s1 d with _ | _ | _ <;> simp [h]
@[simp] theorem R_eNot (m : ME) : R (eNot m e s) Q ↔ R (m e s) fun d s1 => Rc (truD s1 d) fun k => Q (.d (.bool (!k))) s1 := by
  unfold eNot
  rcases m e s with _ | ⟨d, s1⟩
  · simp
  · rcases h : truD s1 d with _ | k <;> simp [h]
@[simp] theorem R_neg (m : ME) : R (eNeg m e s) Q ↔ R (m e s) fun d s1 => match d with
  | .d (.int i) => Q (.d (.int (-i))) s1
  | _ => False := by
  unfold eNeg
  rcases m e s with _ | ⟨d, s1⟩
  · simp
  · rcases d with x | j
    · cases x <;> simp
    · simp
@[simp] theorem R_tup (ms : MA) : R (eTup ms e s) Q ↔ R (ms e s) fun ds s1 => Rc (data ds) fun xs => xs.length ≤ lim ∧ Q (.d (.tuple xs)) s1 := by
  unfold eTup
  rcases ms e s with _ | ⟨ds, s1⟩
  · simp
  · rcases h : data ds with _ | xs
    · simp [h]
    · by_cases h2 : xs.length ≤ lim <;> simp [h, h2]
@[simp] theorem R_lst (own : Bool) (ms : MA) : R (eLst own ms e s) Q ↔ R (ms e s) fun ds s1 => ds.length ≤ lim ∧ R (mkL own s1 ds) Q := by
  unfold eLst
  rcases ms e s with _ | ⟨ds, s1⟩
  · simp
  · by_cases h : ds.length ≤ lim <;> simp [h]
@[simp] theorem R_mkT (ds : List D) : R (mkL true s ds) Q ↔ Q (.r s.length) (s ++ [.lst ds]) := R_some
@[simp] theorem R_mkF (ds : List D) : R (mkL false s ds) Q ↔ Rc (data ds) fun xs => Q (.d (.list xs)) s := by
  unfold mkL
  rcases h : data ds with _ | xs <;> simp [h]
@[simp] theorem R_dic : R (eDic e s) Q ↔ Q (.r s.length) (s ++ [.dic []]) := R_some
@[simp] theorem R_dicK : R (eDicK e s) Q ↔ Q (.r s.length) (s ++ [.dk []]) := R_some
@[simp] theorem R_isi (t : TyT) (m : ME) : R (eIsi t m e s) Q ↔ R (m e s) fun d s1 => Rc (pd s1 d) fun x => Q (.d (.bool (t.of x))) s1 := by
  unfold eIsi
  rcases m e s with _ | ⟨d, s1⟩
  · simp
  · rcases h : pd s1 d with _ | x <;> simp [h]
@[simp] theorem R_oNone : R (oNone e s) Qo ↔ Qo none s := R_some
@[simp] theorem R_oSome (m : ME) : R (oSome m e s) Qo ↔ R (m e s) fun d s1 => match d with
  | .d (.int i) => Qo (some i) s1
  | _ => False := by
  unfold oSome
  rcases m e s with _ | ⟨d, s1⟩
  · simp
  · rcases d with x | j
    · cases x <;> simp [eC]
    · simp
theorem cutD_map {α β : Type} (f : α → β) (xs : List α) (lo hi : Option Int) : cutD (xs.map f) lo hi = (cutD xs lo hi).map f := by
  unfold cutD
  rw [List.length_map, List.map_take, List.map_drop]
theorem v_list {own : Bool} (xs : List PyData) : bList own s [.d (.list xs)] = mkL own s (xs.map .d) := rfl
@[simp] theorem R_sl {own : Bool} (ma : ME) (ml mu : MO) : R (eSl own ma ml mu e s) Q ↔ R (ma e s) fun a s1 => R (ml e s1) fun l s2 => R (mu e s2) fun u s3 => match a with
  | .d (.tuple xs) => Q (.d (.tuple (cutD xs l u))) s3
  | a => Rc (asL s3 a) fun ds => R (mkL own s3 (cutD ds l u)) Q := by
  unfold eSl
  rcases ma e s with _ | ⟨a, s1⟩
  · simp
  · rcases h1 : ml e s1 with _ | ⟨l, s2⟩
    · simp [h1]
    · rcases h2 : mu e s2 with _ | ⟨u, s3⟩
      · simp [h1, h2]
      · rcases a with x | j
        · cases x <;> simp [h1, h2, asL]
        · simp only [h1, h2, R_some]
          rcases h3 : asL s3 (.r j) with _ | ds <;> simp [h3]
/-- an item -/
def kIx (s : Sto) (a : D) (x : PyData) : Option D := match a with
  | .r j => match s[j]? with
    | some (.dk kvs) => match keyOf x with
      | some k => kGet kvs k
      | none => none
    | _ => none
  | _ => none
noncomputable def itF (s : Sto) (a b : D) : Option D := match gIxU s a b with
  | some d => some d
  | none => match b with
    | .d x => kIx s a x
    | _ => none
theorem R_it (ma mb : ME) : R (eIt ma mb e s) Q ↔ R (ma e s) fun a s1 => R (mb e s1) fun b s2 => Rc (itF s2 a b) fun d => Q d s2 := by
  unfold eIt eItem eIxK eBin
  rcases ma e s with _ | ⟨a, s1⟩
  · simp
  · rcases h : mb e s1 with _ | ⟨b, s2⟩
    · simp [h]
    · simp only [h, R_some, itF]
      rcases h2 : gIxU s2 a b with _ | d
      · simp only [R_some]
        rcases b with x | k
        · rcases a with y | j
          · simp [kIx]
          · simp only [kIx]
            rcases s2[j]? with _ | c
            · simp
            · rcases c with ds | kvs | kvs | kvs | ⟨rl, rh⟩ | _
              · simp
              · simp
              · rcases keyOf x with _ | k
                · simp
                · rcases h3 : kGet kvs k with _ | d <;> simp [h3]
              · simp
              · simp
              · simp
        · rcases a with y | j <;> simp
      · simp
theorem itF_l {j : Nat} {ds : List D} {i : Int} {d : D} (h : s[j]? = some (.lst ds)) (h2 : atI ds i = some d) : itF s (.r j) (.d (.int i)) = some d := by
  unfold itF gIxU gIx asSeq asL
  simp only [h, h2]
theorem itF_t {xs : List PyData} {i : Int} {x : PyData} (h2 : atI xs i = some x) : itF s (.d (.tuple xs)) (.d (.int i)) = some (.d x) := by
  have : atI (xs.map D.d) i = some (.d x) := by
    unfold atI at h2 ⊢
    rw [List.length_map]
    rcases h : ixN xs.length i with _ | k
    · rw [h] at h2; cases h2
    · rw [h] at h2
      simp only [Option.bind_some] at h2 ⊢
      rw [List.getElem?_map, h2]
      rfl
  unfold itF gIxU gIx asSeq
  simp only [this]
theorem itF_tl {xs : List PyData} {i : Int} {x : PyData} (h2 : atI xs i = some x) : itF s (.d (.list xs)) (.d (.int i)) = some (.d x) := by
  have : atI (xs.map D.d) i = some (.d x) := by
    unfold atI at h2 ⊢
    rw [List.length_map]
    rcases h : ixN xs.length i with _ | k
    · rw [h] at h2; cases h2
    · rw [h] at h2
      simp only [Option.bind_some] at h2 ⊢
      rw [List.getElem?_map, h2]
      rfl
  unfold itF gIxU gIx asSeq asL
  simp only [this]
theorem atI_nat {α : Type} {xs : List α} {i : Nat} {x : α} (h : xs[i]? = some x) : atI xs (i : Int) = some x := by
  have hl : i < xs.length := by
    rcases Nat.lt_or_ge i xs.length with hi | hi
    · exact hi
    · rw [List.getElem?_eq_none hi] at h; cases h
  unfold atI ixN
  rw [if_pos (by omega), if_pos (by omega)]
  simpa using h
@[simp] theorem Rs_nil : Rs (sNil e s) Qs ↔ Qs .nx e s := Rs_some
@[simp] theorem Rs_pass : Rs (sPass e s) Qs ↔ Qs .nx e s := Rs_some
@[simp] theorem Rs_ct : Rs (sCt e s) Qs ↔ Qs .ct e s := Rs_some
@[simp] theorem Rs_bk : Rs (sBk e s) Qs ↔ Qs .bk e s := Rs_some
/-- what holds behind a statement -/
def thn (b : MS) (Q : Fl → Lo → Sto → Prop) : Fl → Lo → Sto → Prop := fun fl e s => match fl with
  | .nx => Rs (b e s) Q
  | fl => Q fl e s
@[simp] theorem thn_nx (b : MS) : thn b Qs .nx e s ↔ Rs (b e s) Qs := Iff.rfl
@[simp] theorem thn_rt (b : MS) (d : D) : thn b Qs (.rt d) e s ↔ Qs (.rt d) e s := Iff.rfl
@[simp] theorem thn_bk (b : MS) : thn b Qs .bk e s ↔ Qs .bk e s := Iff.rfl
@[simp] theorem thn_ct (b : MS) : thn b Qs .ct e s ↔ Qs .ct e s := Iff.rfl
@[simp] theorem Rs_seq (a b : MS) : Rs (sSeq a b e s) Qs ↔ Rs (a e s) (thn b Qs) := by
  unfold sSeq
  rcases a e s with _ | ⟨fl, e1, s1⟩
  · simp
  · cases fl <;> simp
@[simp] theorem Rs_set (i : Nat) (m : ME) : Rs (sSet i m e s) Qs ↔ R (m e s) fun d s1 => Qs .nx (e.set i (some d)) s1 := by
  unfold sSet
  rcases m e s with _ | ⟨d, s1⟩ <;> simp
@[simp] theorem Rs_ret (m : ME) : Rs (sRet m e s) Qs ↔ R (m e s) fun d s1 => Qs (.rt d) e s1 := by
  unfold sRet
  rcases m e s with _ | ⟨d, s1⟩ <;> simp
@[simp] theorem Rs_expr (m : ME) : Rs (sExpr m e s) Qs ↔ R (m e s) fun d s1 => Qs .nx e s1 := by
  unfold sExpr
  rcases m e s with _ | ⟨d, s1⟩ <;> simp
@[simp] theorem Rs_if (mt : MT) (M1 M2 : MS) : Rs (sIf mt M1 M2 e s) Qs ↔ R (mt e s) fun k s1 => (k = true → Rs (M1 e s1) Qs) ∧ (k = false → Rs (M2 e s1) Qs) := by
  unfold sIf
  rcases mt e s with _ | ⟨_ | _, s1⟩ <;> simp
@[simp] theorem Rs_aug (i : Nat) (f : FB) (m : ME) : Rs (sAug i f m e s) Qs ↔ match e[i]? with
  | some (some u) => R (m e s) fun d s1 => R (f s1 u d) fun z s2 => Qs .nx (e.set i (some z)) s2
  | _ => False := by
  unfold sAug
  rcases e[i]? with _ | _ | u
  · simp
  · simp
  · rcases m e s with _ | ⟨d, s1⟩
    · simp
    · rcases h : f s1 u d with _ | ⟨z, s2⟩ <;> simp [h]
@[simp] theorem Rs_asg (g : MG) (m : ME) : Rs (sAsg g m e s) Qs ↔ R (m e s) fun d s1 => Rc (g d e) fun e1 => Qs .nx e1 s1 := by
  unfold sAsg
  rcases m e s with _ | ⟨d, s1⟩
  · simp
  · rcases h : g d e with _ | e1 <;> simp [h]
@[simp] theorem Rs_par (is : List Nat) (ms : MA) : Rs (sPar is ms e s) Qs ↔ R (ms e s) fun ds s1 => ds.length = is.length ∧ Qs .nx ((is.zip ds).foldl (fun e z => e.set z.1 (some z.2)) e) s1 := by
  unfold sPar
  rcases ms e s with _ | ⟨ds, s1⟩
  · simp
  · by_cases h : ds.length = is.length <;> simp [h]
@[simp] theorem g_name (k : Nat) (d : D) : gName k d e = some (e.set k (some d)) := rfl
@[simp] theorem g_tup (gs : MGs) (xs : List PyData) : gTup gs (.d (.tuple xs)) e = gs xs e := rfl
@[simp] theorem gs_nil : gsNil [] e = some e := rfl
@[simp] theorem gs_cons (g : MG) (gs : MGs) (x : PyData) (xs : List PyData) : gsCons g gs (x :: xs) e = match g (.d x) e with
  | some e1 => gs xs e1
  | none => none := rfl
@[simp] theorem gs_len (n : Nat) (gs : MGs) (xs : List PyData) : gsLenOk n gs xs e = if xs.length = n then gs xs e else none := rfl
/-- an item put -/
noncomputable def putF (s : Sto) (o i d : D) : Option Sto := match o with
  | .r j => match s[j]? with
    | some (.lst ds) => match i with
      | .d (.int i) => match ixN ds.length i with
        | some k => some (s.set j (.lst (ds.set k d)))
        | none => none
      | _ => none
    | some (.dic kvs) => match i with
      | .d x => if isKey x ∧ kvs.length < lim then some (s.set j (.dic (dPut kvs x d))) else none
      | _ => none
    | some (.dk kvs) => match i with
      | .d x => match keyOf x with
        | some k => if kvs.length < lim then some (s.set j (.dk (kPut kvs k d))) else none
        | none => none
      | _ => none
    | _ => none
  | _ => none
theorem Rs_pu {ma mi mv : ME} : Rs (sPu ma mi mv e s) Qs ↔ R (mv e s) fun d s1 => R (ma e s1) fun o s2 => R (mi e s2) fun i s3 => Rc (putF s3 o i d) fun s4 => Qs .nx e s4 := by
  unfold sPu sPutU sPut sPutD sPutK putL putF
  rcases h1 : mv e s with _ | ⟨d, s1⟩
  · simp
  · rcases h2 : ma e s1 with _ | ⟨o, s2⟩
    · simp [h2]
    · rcases h3 : mi e s2 with _ | ⟨i, s3⟩
      · rcases o with x | j <;> simp [h2, h3]
      · rcases o with x | j
        · rcases i with x | j
          · cases x <;> simp [h2, h3]
          · simp [h2, h3]
        · rcases h4 : s3[j]? with _ | c
          · rcases i with x | j
            · cases x <;> simp [h2, h3, h4]
            · simp [h2, h3, h4]
          · rcases i with x | j
            · rcases c with ds | kvs | kvs | kvs | ⟨rl, rh⟩ | _
              · cases x <;> simp [h2, h3, h4]
                rename_i i
                rcases h5 : ixN ds.length i with _ | k <;> simp [h5]
              · by_cases hk : isKey x ∧ kvs.length < lim
                · cases x <;> simp [h2, h3, h4, hk]
                · cases x <;> simp [h2, h3, h4, hk]
              · have hk : isKey x = true → keyOf x = none ∨ True := fun _ => .inr trivial
                rcases h5 : keyOf x with _ | k
                · cases x <;> simp [h2, h3, h4, h5]
                · by_cases hl : kvs.length < lim <;> cases x <;> simp [h2, h3, h4, h5, hl]
              · cases x <;> simp [h2, h3, h4]
              · cases x <;> simp [h2, h3, h4]
              · cases x <;> simp [h2, h3, h4]
            · rcases c with ds | kvs | kvs | kvs | ⟨rl, rh⟩ | _ <;> simp [h2, h3, h4]
theorem putF_l {j k : Nat} {ds : List D} {i : Int} {d : D} (h : s[j]? = some (.lst ds)) (h2 : ixN ds.length i = some k) : putF s (.r j) (.d (.int i)) d = some (s.set j (.lst (ds.set k d))) := by
  unfold putF
  simp only [h, h2]
theorem putF_k {j : Nat} {kvs : List (PyData × D)} {xs : List PyData} {d : D} (h : s[j]? = some (.dic kvs)) (hk : isKey (.tuple xs) = true) (hl : kvs.length < lim) : putF s (.r j) (.d (.tuple xs)) d = some (s.set j (.dic (dPut kvs (.tuple xs) d))) := by
  unfold putF
  simp only [h]
  rw [if_pos ⟨hk, hl⟩]
theorem R_fn {np n : Nat} {own : Bool} {M : MS} {ds : List D} : R (fnR np n own M s ds) Q ↔ ds.length = np ∧ Rs (M (ds.map some ++ List.replicate (n - np) none) s) fun fl _ s' => match fl with
  | .rt d => R (ret own s d s') Q
  | .nx => R (ret own s (.d .none) s') Q
  | _ => False := by
  unfold fnR
  by_cases h : ds.length = np
  · rw [if_pos h]
    rcases M (ds.map some ++ List.replicate (n - np) none) s with _ | ⟨fl, e1, s1⟩
    · simp [h]
    · cases fl <;> simp [h]
  · rw [if_neg h]; simp [h]
@[simp] theorem v_sub (i j : Int) : oSub s (.d (.int i)) (.d (.int j)) = some (.d (.int (i - j)), s) := rfl
@[simp] theorem v_add (own : Bool) (i j : Int) : oAdd own s (.d (.int i)) (.d (.int j)) = some (.d (.int (i + j)), s) := rfl
@[simp] theorem v_iadd (i j : Int) : oIadd s (.d (.int i)) (.d (.int j)) = some (.d (.int (i + j)), s) := rfl
@[simp] theorem v_addT (own : Bool) (xs ys : List PyData) : R (oAdd own s (.d (.tuple xs)) (.d (.tuple ys))) Q ↔ xs.length + ys.length ≤ lim ∧ Q (.d (.tuple (xs ++ ys))) s := by
  unfold oAdd
  by_cases h : xs.length + ys.length ≤ lim <;> simp [h]
theorem v_mul {i j : Int} (h : ((-(2 ^ 64) < i ∧ i < 2 ^ 64) ∨ (-(2 ^ 64) < j ∧ j < 2 ^ 64)) ∨ i.natAbs.log2 + j.natAbs.log2 < 1000000) : oMul s (.d (.int i)) (.d (.int j)) = some (.d (.int (i * j)), s) := by
  unfold oMul
  simp only [if_pos h]
theorem v_mulL {i j : Int} (h : -(2 ^ 64) < i ∧ i < 2 ^ 64) : oMul s (.d (.int i)) (.d (.int j)) = some (.d (.int (i * j)), s) := v_mul (.inl (.inl h))
theorem v_mulR {i j : Int} (h : -(2 ^ 64) < j ∧ j < 2 ^ 64) : oMul s (.d (.int i)) (.d (.int j)) = some (.d (.int (i * j)), s) := v_mul (.inl (.inr h))
theorem log2_small {j : Int} (h' : j.natAbs < 2 ^ 256) : j.natAbs.log2 ≤ 256 := by
  by_cases h0 : j.natAbs = 0
  · rw [h0]; decide
  · have := (Nat.log2_lt (n := j.natAbs) (k := 256) h0).mpr h'
    omega
theorem v_div {i j : Int} (h : 0 < j) (h' : j < 2 ^ 256) : oDiv s (.d (.int i)) (.d (.int j)) = some (.d (.int (i / j)), s) := by
  have := log2_small (j := j) (by omega)
  unfold oDiv i2
  simp only [if_pos (show 0 < j ∧ j.natAbs.log2 < 9000 from ⟨h, by omega⟩)]
theorem v_mod {i j : Int} (h : 0 < j) : oMod s (.d (.int i)) (.d (.int j)) = some (.d (.int (i % j)), s) := by
  unfold oMod i2
  simp only [if_pos h]
theorem v_pow {i j : Int} (h : 0 ≤ j ∧ j ≤ 1000000 ∧ i.natAbs < 2 ^ 64) : oPow s (.d (.int i)) (.d (.int j)) = some (.d (.int (i ^ j.toNat)), s) := by
  unfold oPow i2
  simp only [if_pos h]
@[simp] theorem v_xor (i j : Int) : oXor s (.d (.int i)) (.d (.int j)) = some (.d (.int (Builtin.bitXor i j)), s) := rfl
@[simp] theorem v_lt (i j : Int) : cLt s (.d (.int i)) (.d (.int j)) = some (decide (i < j)) := rfl
@[simp] theorem v_le (i j : Int) : cLe s (.d (.int i)) (.d (.int j)) = some (decide (i ≤ j)) := rfl
@[simp] theorem v_gt (i j : Int) : cGt s (.d (.int i)) (.d (.int j)) = some (decide (j < i)) := rfl
@[simp] theorem v_ge (i j : Int) : cGe s (.d (.int i)) (.d (.int j)) = some (decide (j ≤ i)) := rfl
@[simp] theorem v_eq (i j : Int) : cEq s (.d (.int i)) (.d (.int j)) = some (decide (i = j)) := rfl
@[simp] theorem v_ne (i j : Int) : cNe s (.d (.int i)) (.d (.int j)) = some (!decide (i = j)) := rfl
@[simp] theorem v_isN (a : D) : cIsN false s a (.d .none) = some (isNone a) := rfl
@[simp] theorem v_isNn (a : D) : cIsN true s a (.d .none) = some (!isNone a) := rfl
@[simp] theorem isNone_n : isNone (.d .none) = true := rfl
@[simp] theorem isNone_r (j : Nat) : isNone (.r j) = false := rfl
@[simp] theorem isNone_i (i : Int) : isNone (.d (.int i)) = false := rfl
@[simp] theorem isNone_t (xs : List PyData) : isNone (.d (.tuple xs)) = false := rfl
@[simp] theorem isNone_l (xs : List PyData) : isNone (.d (.list xs)) = false := rfl
@[simp] theorem isNone_b (b : Bool) : isNone (.d (.bool b)) = false := rfl
@[simp] theorem v_int (i : Int) : bInt s [.d (.int i)] = some (.d (.int i), s) := rfl
@[simp] theorem tru_b (b : Bool) : truD s (.d (.bool b)) = some b := rfl
@[simp] theorem tru_i (i : Int) : truD s (.d (.int i)) = some (i != 0) := rfl
@[simp] theorem tru_t (xs : List PyData) : truD s (.d (.tuple xs)) = some (!xs.isEmpty) := rfl
@[simp] theorem tru_l (xs : List PyData) : truD s (.d (.list xs)) = some (!xs.isEmpty) := rfl
@[simp] theorem tru_n : truD s (.d .none) = some false := rfl
@[simp] theorem pd_d (x : PyData) : pd s (.d x) = some x := rfl
@[simp] theorem data_nil : data [] = some [] := rfl
@[simp] theorem data_cons (x : PyData) (ds : List D) : data (.d x :: ds) = match data ds with
  | some xs => some (x :: xs)
  | none => none := rfl
@[simp] theorem len_t (xs : List PyData) : bLen s [.d (.tuple xs)] = some (.d (.int xs.length), s) := rfl
theorem len_l (xs : List PyData) : bLen s [.d (.list xs)] = some (.d (.int xs.length), s) := by
  unfold bLen f1 lenG asL
  simp
theorem len_r {j : Nat} {ds : List D} (h : s[j]? = some (.lst ds)) : bLen s [.r j] = some (.d (.int ds.length), s) := by
  unfold bLen f1 lenG asL
  simp [h]
@[simp] theorem v_tupT (xs : List PyData) : bTuple s [.d (.tuple xs)] = some (.d (.tuple xs), s) := rfl
theorem v_tupL (xs : List PyData) : bTuple s [.d (.list xs)] = some (.d (.tuple xs), s) := by
  unfold bTuple asL
  simp [data_map]
theorem v_tupR {j : Nat} {xs : List PyData} (h : s[j]? = some (.lst (xs.map .d))) : bTuple s [.r j] = some (.d (.tuple xs), s) := by
  unfold bTuple asL
  simp [h, data_map]
end
end N

namespace N
open PySem L2 PyProof.Rows

/-- what the store's cells refer to is in it -/
def Wf (s : Sto) : Prop := ∀ c ∈ s, c.below s.length
theorem safe_wf {s0 s g : Sto} (hl : s.length = s0.length) (h : Wf s) : Safe s0 (s ++ g) := by
  refine ⟨by simp; omega, fun j c hj hc => ?_⟩
  rw [List.getElem?_append_left (by omega)] at hc
  exact .inr (by rw [← hl]; exact h c (List.mem_of_getElem? hc))
theorem trim_wf {s0 s g : Sto} (hl : s.length = s0.length) (h : Wf s) : trim s0 (s ++ g) = s := by
  unfold trim
  rw [if_pos (safe_wf hl h), ← hl, List.take_left]
theorem trim_wf' {s0 s : Sto} (hl : s.length = s0.length) (h : Wf s) : trim s0 s = s := by
  have := trim_wf (g := []) hl h
  rwa [List.append_nil] at this
theorem trimE_wf {s0 s g : Sto} {e : Lo} (hl : s.length = s0.length) (h : Wf s) (he : LoBelow s0.length e) : trimE s0 e (s ++ g) = s := by
  unfold trimE
  rw [if_pos he, trim_wf hl h]
section
variable {e : Lo} {s : Sto} {Q : D → Sto → Prop} {Qt : Bool → Sto → Prop} {Qa : List D → Sto → Prop} {Qs : Fl → Lo → Sto → Prop} {Qo : Option Int → Sto → Prop} {Qi : List D → Option (Nat × List D) → Sto → Prop}
@[simp] theorem Ri_rng1 (ms : MA) : Ri (iRng1 ms e s) Qi ↔ R (ms e s) fun ds s1 => match ds with
  | [.d (.int j)] => (-(2 ^ 62) ≤ j ∧ j < 2 ^ 62) ∧ Qi (rngD 0 j.toNat) none s1
  | _ => False := by
  unfold iRng1
  rcases ms e s with _ | ⟨ds, s1⟩
  · simp
  · simp only [R_some]
    split
    · rename_i j s2 h
      cases h
      by_cases h : -(2 ^ 62) ≤ j ∧ j < 2 ^ 62
      · simp only [if_pos h, Ri_some]
        exact ⟨fun q => ⟨h, q⟩, fun q => q.2⟩
      · simp only [if_neg h, Ri_none, false_iff]
        exact fun q => h q.1
    · rename_i h
      simp only [Ri_none, false_iff]
      split
      · rename_i j
        exact (h j _ rfl).elim
      · exact id
@[simp] theorem Ri_rng2 (ms : MA) : Ri (iRng2 ms e s) Qi ↔ R (ms e s) fun ds s1 => match ds with
  | [.d (.int i), .d (.int j)] => (-(2 ^ 62) ≤ i ∧ i < 2 ^ 62 ∧ -(2 ^ 62) ≤ j ∧ j < 2 ^ 62) ∧ Qi (rngD i (j - i).toNat) none s1
  | _ => False := by
  unfold iRng2
  rcases ms e s with _ | ⟨ds, s1⟩
  · simp
  · simp only [R_some]
    split
    · rename_i i j s2 h
      cases h
      by_cases h : -(2 ^ 62) ≤ i ∧ i < 2 ^ 62 ∧ -(2 ^ 62) ≤ j ∧ j < 2 ^ 62
      · simp only [if_pos h, Ri_some]
        exact ⟨fun q => ⟨h, q⟩, fun q => q.2⟩
      · simp only [if_neg h, Ri_none, false_iff]
        exact fun q => h q.1
    · rename_i h
      simp only [Ri_none, false_iff]
      split
      · rename_i i j
        exact (h i j _ rfl).elim
      · exact id
@[simp] theorem Ri_seq (m : ME) : Ri (iSeq m e s) Qi ↔ R (m e s) fun d s1 => match d with
  | .d (.tuple xs) => Qi (xs.map .d) none s1
  | .d (.list xs) => Qi (xs.map .d) none s1
  | .r j => match s1[j]? with
    | some (.lst ds) => Qi ds (some (j, ds)) s1
    | _ => False
  | _ => False := by
  unfold iSeq iLst
  rcases m e s with _ | ⟨d, s1⟩
  · simp
  · rcases d with x | j
    · cases x <;> simp
    · simp
      rcases s1[j]? with _ | c
      · simp
      · cases c <;> simp
@[simp] theorem Ri_enumT (m : ME) : Ri (iEnum (aCons m aNil) e s) Qi ↔ R (m e s) fun d s1 => match d with
  | .d (.tuple xs) => Qi (enumD xs) none s1
  | .d (.list xs) => Qi (enumD xs) none s1
  | d => Ri (iEnum (fun _ _ => some ([d], s1)) e s1) Qi := by
  unfold iEnum aCons aNil
  rcases m e s with _ | ⟨d, s1⟩
  · simp
  · rcases d with x | j
    · cases x <;> simp
    · simp
/-- a for -/
def aft (Iv : Lo → Sto → Prop) (Qs : Fl → Lo → Sto → Prop) (dead : List Nat) (s : Sto) : Fl → Lo → Sto → Prop := fun fl e2 s2 => match fl with
  | .nx => Iv (wipeN e2 dead) (trimE s (wipeN e2 dead) s2)
  | .ct => Iv (wipeN e2 dead) (trimE s (wipeN e2 dead) s2)
  | .rt d => Qs (.rt d) e2 s2
  | .bk => Qs .nx e2 s2
@[simp] theorem aft_nx {Iv : Lo → Sto → Prop} {dead : List Nat} {s0 : Sto} : aft Iv Qs dead s0 .nx e s ↔ Iv (wipeN e dead) (trimE s0 (wipeN e dead) s) := Iff.rfl
@[simp] theorem aft_ct {Iv : Lo → Sto → Prop} {dead : List Nat} {s0 : Sto} : aft Iv Qs dead s0 .ct e s ↔ Iv (wipeN e dead) (trimE s0 (wipeN e dead) s) := Iff.rfl
@[simp] theorem aft_rt {Iv : Lo → Sto → Prop} {dead : List Nat} {s0 : Sto} {d : D} : aft Iv Qs dead s0 (.rt d) e s ↔ Qs (.rt d) e s := Iff.rfl
@[simp] theorem aft_bk {Iv : Lo → Sto → Prop} {dead : List Nat} {s0 : Sto} : aft Iv Qs dead s0 .bk e s ↔ Qs .nx e s := Iff.rfl
theorem Rs_forL {α : Type} {enc : α → D} {g : MG} {M : MS} {dead : List Nat} (Iv : Nat → Lo → Sto → Prop) (q : ∀ (e : Lo) (s : Sto) (N : Nat), Iv N e s → True) : ∀ (l : List α) (n : Nat) (e : Lo) (s : Sto), (∀ i x e s, l[i]? = some x → Iv (n + i) e s → Rc (g (enc x) e) fun e1 => Rs (M e1 s) (aft (Iv (n + i + 1)) Qs dead s)) → (∀ e s, Iv (n + l.length) e s → Qs .nx e s) → Iv n e s →
    Rs (forL none (turnF g M dead) (l.map enc) e s) Qs
  | [], n, e, s, h, q, h0 => by
    rw [List.map_nil]
    unfold forL
    rw [if_pos (ck_none _), Rs_some]
    exact q e s h0
  | x :: l, n, e, s, h, q', h0 => by
    rw [List.map_cons]
    unfold forL
    rw [if_pos (ck_none _)]
    obtain ⟨e1, h1, fl, e2, s2, h2, h3⟩ := h 0 x e s rfl h0
    have hh : ∀ i y e s, l[i]? = some y → Iv (n + 1 + i) e s → Rc (g (enc y) e) fun e1 => Rs (M e1 s) (aft (Iv (n + 1 + i + 1)) Qs dead s) := fun i y e s hy hi => by
      have := h (i + 1) y e s (by simpa using hy) (by rw [show n + (i + 1) = n + 1 + i by omega]; exact hi)
      rw [show n + (i + 1) = n + 1 + i by omega] at this
      exact this
    have hq : ∀ e s, Iv (n + 1 + l.length) e s → Qs .nx e s := fun e s hi => q' e s (by rw [show n + (x :: l).length = n + 1 + l.length by simp; omega]; exact hi)
    unfold turnF
    simp only [h1, h2]
    cases fl with
    | nx => exact Rs_forL Iv q l (n + 1) _ _ hh hq h3
    | ct => exact Rs_forL Iv q l (n + 1) _ _ hh hq h3
    | bk => exact Rs_some.mpr h3
    | rt d => exact Rs_some.mpr h3
theorem Rs_for {α : Type} (l : List α) (enc : α → D) {mi : MI} {g : MG} {M : MS} {dead : List Nat} (Iv : Nat → Lo → Sto → Prop) (hi : Ri (mi e s) fun items ck s1 => items = l.map enc ∧ ck = none ∧ Iv 0 e s1)
    (h : ∀ i x e s, l[i]? = some x → Iv i e s → Rc (g (enc x) e) fun e1 => Rs (M e1 s) (aft (Iv (i + 1)) Qs dead s)) (q : ∀ e s, Iv l.length e s → Qs .nx e s) : Rs (sFor mi g M dead e s) Qs := by
  obtain ⟨_, _, s1, h1, rfl, rfl, h2⟩ := hi
  unfold sFor
  simp only [h1]
  refine Rs_forL Iv (fun _ _ _ _ => trivial) l 0 e s1 (fun i x e s hx hi => ?_) (fun e s hi => q e s (by rwa [Nat.zero_add] at hi)) h2
  rw [Nat.zero_add] at hi ⊢
  exact h i x e s hx hi
/-- a while: a measure falls -/
theorem Rs_whileL {mt : MT} {M : MS} {dead : List Nat} (Iv : Nat → Lo → Sto → Prop) (h : ∀ m e s, Iv m e s → R (mt e s) fun b s1 => (b = false → Qs .nx e s1) ∧ (b = true → Rs (M e s1) (aft (fun e s => ∃ m', m' < m ∧ Iv m' e s) Qs dead s))) : ∀ (m n : Nat) (e : Lo) (s : Sto), m < n → Iv m e s → Rs (whileL mt M dead n e s) Qs := by
  intro m
  induction m using Nat.strongRecOn with
  | _ m ih =>
    intro n e s hn hi
    obtain ⟨n, rfl⟩ : ∃ k, n = k + 1 := ⟨n - 1, by omega⟩
    unfold whileL
    obtain ⟨b, s1, h1, h2, h3⟩ := h m e s hi
    cases b with
    | false => simp only [h1]; exact Rs_some.mpr (h2 rfl)
    | true =>
      obtain ⟨fl, e2, s2, h4, h5⟩ := h3 rfl
      simp only [h1, h4]
      cases fl with
      | nx =>
        obtain ⟨m', h6, h7⟩ := h5
        exact ih m' h6 n _ _ (by omega) h7
      | ct =>
        obtain ⟨m', h6, h7⟩ := h5
        exact ih m' h6 n _ _ (by omega) h7
      | bk => exact Rs_some.mpr h5
      | rt d => exact Rs_some.mpr h5
theorem Rs_while {mt : MT} {M : MS} {dead : List Nat} (Iv : Nat → Lo → Sto → Prop) {m : Nat} (hm : m < 2 ^ 64) (h0 : Iv m e s) (h : ∀ m e s, Iv m e s → R (mt e s) fun b s1 => (b = false → Qs .nx e s1) ∧ (b = true → Rs (M e s1) (aft (fun e s => ∃ m', m' < m ∧ Iv m' e s) Qs dead s))) : Rs (sWhile mt M dead e s) Qs :=
  Rs_whileL Iv h m _ e s hm h0
/-- a comprehension whose turns leave the store -/
theorem R_lc {α : Type} (l : List α) (enc : α → D) (f : α → PyData) (p : α → Bool) {vs : List Nat} {mi : MI} {g : MG} {mt : MT} {el : ME} (hi : Ri (mi e s) fun items ck s1 => items = l.map enc ∧ ck = none ∧ s1 = s)
    (h : ∀ x ∈ l, ∀ acc, Rc (g (enc x) (wipeN e vs)) fun e1 => R (mt e1 (s ++ [.lst acc])) fun b s2 => b = p x ∧ s2 = s ++ [.lst acc] ∧ (p x = true → R (el e1 (s ++ [.lst acc])) fun d s3 => d = .d (f x) ∧ s3 = s ++ [.lst acc])) (hl : l.length ≤ lim) (q : Q (.d (.list ((l.filter p).map f))) s) : R (eLc false vs mi g mt el e s) Q := by
  obtain ⟨_, _, _, h1, rfl, rfl, rfl⟩ := hi
  refine R.of (eLc_d f p h1 (fun x hx acc => ?_) hl) q
  obtain ⟨e1, h2, b, s2, h3, rfl, rfl, h4⟩ := h x hx acc
  refine ⟨e1, h2, h3, fun hp => ?_⟩
  obtain ⟨_, _, h5, rfl, rfl⟩ := h4 hp
  exact h5
/-- .. that takes each -/
theorem R_lcm {α : Type} (l : List α) (enc : α → D) (f : α → PyData) {vs : List Nat} {mi : MI} {g : MG} {el : ME} (hi : Ri (mi e s) fun items ck s1 => items = l.map enc ∧ ck = none ∧ s1 = s)
    (h : ∀ x ∈ l, ∀ acc, Rc (g (enc x) (wipeN e vs)) fun e1 => R (el e1 (s ++ [.lst acc])) fun d s3 => d = .d (f x) ∧ s3 = s ++ [.lst acc]) (hl : l.length ≤ lim) (q : Q (.d (.list (l.map f))) s) : R (eLc false vs mi g tTrue el e s) Q := by
  refine R_lc l enc f (fun _ => true) hi (fun x hx acc => ?_) hl (by rwa [List.filter_eq_self.mpr (fun _ _ => rfl)])
  obtain ⟨e1, h1, h2⟩ := h x hx acc
  exact ⟨e1, h1, R_tTrue.mpr ⟨rfl, rfl, fun _ => h2⟩⟩
end
end N

namespace N
open PySem L2 PyProof.Rows

mutual
def pk : PyData → Bool
  | .none => true
  | .int _ => true
  | .str _ => true
  | .tuple xs => pks xs
  | .list xs => pks xs
  | _ => false
def pks : List PyData → Bool
  | [] => true
  | x :: xs => pk x && pks xs
end
theorem pks_iff : ∀ {xs : List PyData}, pks xs = true ↔ ∀ x ∈ xs, pk x = true
  | [] => by simp [pks]
  | x :: xs => by simp [pks, pks_iff (xs := xs)]
mutual
theorem pk_plain : ∀ {x : PyData}, pk x = true → x.plain = true
  | .none, _ => rfl
  | .int _, _ => rfl
  | .str _, _ => rfl
  | .tuple xs, h => by unfold PyData.plain; exact pks_plain (by simpa [pk] using h)
  | .list xs, h => by unfold PyData.plain; exact pks_plain (by simpa [pk] using h)
  | .bool _, h => by simp [pk] at h
  | .dict _, h => by simp [pk] at h
theorem pks_plain : ∀ {xs : List PyData}, pks xs = true → PyData.plainAll xs = true
  | [], _ => rfl
  | x :: xs, h => by
    simp only [pks, Bool.and_eq_true] at h
    simp only [PyData.plainAll, Bool.and_eq_true]
    exact ⟨pk_plain h.1, pks_plain h.2⟩
end
mutual
theorem pk_eqv : ∀ {x y : PyData}, pk x = true → pk y = true → PyData.eqv x y = decide (x = y)
  | .none, y, _, h => by cases y <;> simp [PyData.eqv, pk] at h ⊢
  | .int _, y, _, h => by
    cases y with
    | int j => unfold PyData.eqv; simp [Bool.beq_eq_decide_eq]
    | _ => simp [PyData.eqv, pk] at h ⊢
  | .str _, y, _, h => by
    cases y with
    | str j => unfold PyData.eqv; simp [Bool.beq_eq_decide_eq]
    | _ => simp [PyData.eqv, pk] at h ⊢
  | .tuple xs, y, hx, h => by
    cases y with
    | tuple ys =>
      unfold PyData.eqv
      rw [pks_eqv (by simpa [pk] using hx) (by simpa [pk] using h)]
      simp
    | _ => simp [PyData.eqv, pk] at h ⊢
  | .list xs, y, hx, h => by
    cases y with
    | list ys =>
      unfold PyData.eqv
      rw [pks_eqv (by simpa [pk] using hx) (by simpa [pk] using h)]
      simp
    | _ => simp [PyData.eqv, pk] at h ⊢
  | .bool _, _, h, _ => by simp [pk] at h
  | .dict _, _, h, _ => by simp [pk] at h
theorem pks_eqv : ∀ {xs ys : List PyData}, pks xs = true → pks ys = true → PyData.eqvAll xs ys = decide (xs = ys)
  | [], [], _, _ => by simp [PyData.eqvAll]
  | [], _ :: _, _, _ => by simp [PyData.eqvAll]
  | _ :: _, [], _, _ => by simp [PyData.eqvAll]
  | x :: xs, y :: ys, h, h' => by
    simp only [pks, Bool.and_eq_true] at h h'
    unfold PyData.eqvAll
    rw [pk_eqv h.1 h'.1, pks_eqv h.2 h'.2]
    simp
end
section
variable {s : Sto}
theorem eqv_gen {a b : D} {x y : PyData} (ha : pd s a = some x) (hb : pd s b = some y) (hx : pk x = true) (hy : pk y = true) (hd : min x.depth y.depth ≤ 60) : cEqv s a b = some (decide (x = y)) := by
  unfold cEqv
  split
  · rename_i i j
    simp only [pd, Option.some.injEq] at ha hb
    subst ha; subst hb
    simp
  · simp only [ha, hb]
    rw [if_pos ⟨pk_plain hx, pk_plain hy, hd⟩, pk_eqv hx hy]
theorem v_eqP {a b : D} {x y : PyData} (ha : pd s a = some x) (hb : pd s b = some y) (hx : pk x = true) (hy : pk y = true) (hd : min x.depth y.depth ≤ 60) : cEq s a b = some (decide (x = y)) := eqv_gen ha hb hx hy hd
@[simp] theorem v_eqB (a b : Bool) : cEq s (.d (.bool a)) (.d (.bool b)) = some (decide (a = b)) := by
  unfold cEq cEqv
  simp [PyData.plain, PyData.depth, PyData.eqv, Bool.beq_eq_decide_eq]
@[simp] theorem v_neB (a b : Bool) : cNe s (.d (.bool a)) (.d (.bool b)) = some (!decide (a = b)) := by
  unfold cNe cEqv
  simp [PyData.plain, PyData.depth, PyData.eqv, Bool.beq_eq_decide_eq]
@[simp] theorem v_eqS (a b : Str) : cEq s (.d (.str a)) (.d (.str b)) = some (decide (a = b)) := v_eqP rfl rfl rfl rfl (by simp [PyData.depth]) |>.trans (by simp)
/-- in -/
theorem any_pk {ds : List PyData} {x : PyData} (h : pks ds = true) (hx : pk x = true) : (ds.any fun z => PyData.eqv z x) = decide (x ∈ ds) := by
  induction ds with
  | nil => simp
  | cons d ds ih =>
    simp only [pks, Bool.and_eq_true] at h
    rw [List.any_cons, ih h.2, pk_eqv h.1 hx]
    by_cases e : d = x
    · simp [e]
    · simp [e, Ne.symm e, List.mem_cons, show x ≠ d from fun h => e h.symm]
theorem v_inQ {neg : Bool} {ds : List PyData} {x : PyData} (h : pks ds = true) (hx : pk x = true) (hd : min (PyData.depthAll ds) x.depth ≤ 60) : cInQ neg x ds = some (if neg then !decide (x ∈ ds) else decide (x ∈ ds)) := by
  unfold cInQ
  rw [if_pos ⟨pks_plain h, pk_plain hx, hd⟩, any_pk h hx]
theorem v_inT {neg : Bool} {ds : List PyData} {a : D} {x : PyData} (ha : pd s a = some x) (h : pks ds = true) (hx : pk x = true) (hd : min (PyData.depthAll ds) x.depth ≤ 60) : cIn neg s a (.d (.tuple ds)) = some (if neg then !decide (x ∈ ds) else decide (x ∈ ds)) := by
  unfold cIn
  simp only [ha]
  exact v_inQ h hx hd
theorem v_inL {neg : Bool} {ds : List PyData} {a : D} {x : PyData} (ha : pd s a = some x) (h : pks ds = true) (hx : pk x = true) (hd : min (PyData.depthAll ds) x.depth ≤ 60) : cIn neg s a (.d (.list ds)) = some (if neg then !decide (x ∈ ds) else decide (x ∈ ds)) := by
  unfold cIn
  simp only [ha]
  exact v_inQ h hx hd
theorem v_inD {neg : Bool} {j : Nat} {kvs : List (PyData × D)} {x : PyData} (h : s[j]? = some (.dic kvs)) (hk : isKey x = true) : cIn neg s (.d x) (.r j) = some (if neg then !dHas kvs x else dHas kvs x) := by
  unfold cIn
  simp only [h, hk, if_true]
end
theorem kOK_ints (ns : List Int) : Z.kOKs (ns.map PyData.int) = true := by
  induction ns with
  | nil => rfl
  | cons n ns ih => simp [Z.kOKs, Z.kOK, ih]
theorem dep_ints (ns : List Int) : Z.deps (ns.map PyData.int) = 0 := by
  induction ns with
  | nil => rfl
  | cons n ns ih => simp [Z.deps, Z.dep, ih]
theorem key_ints (ns : List Int) : isKey (.tuple (ns.map PyData.int)) = true := by
  simp [isKey, Z.isTup, Z.kOK, kOK_ints, Z.dep, dep_ints]
theorem intsOf_ints (ns : List Int) : intsOf ((ns.map PyData.int).map D.d) = some ns := by
  induction ns with
  | nil => rfl
  | cons n ns ih => simp only [List.map_cons, intsOf, ih]
end N

namespace N
open PySem L2 PyProof.Rows

theorem R_retd {own : Bool} {s s' : Sto} {x : PyData} {Q : D → Sto → Prop} : R (ret own s (.d x) s') Q ↔ Q (.d x) (trim s s') := R_some
/-- the tape stands in cells 0 and 1, what follows is kept -/
def tp (xs : List Int) (p q r : Int) (rest : Sto) : Sto := .lst (xs.map fun i => .d (.int i)) :: .lst [.r 0, .d (.int p), .d (.int q), .d (.int r)] :: rest
def TS (rest s : Sto) : Prop := ∃ xs p q r, 0 ≤ p ∧ s = tp xs p q r rest
section
variable {xs : List Int} {p q r : Int} {rest : Sto}
end
end N

namespace N
open PySem L2 PyProof.Rows

noncomputable def b__law_same (rec : FA) : MS := (sSeq (sIf (tOr (tAnd (tVal (eIsi .tup (eVar 0))) (tVal (eIsi .tup (eVar 1)))) (tAnd (tVal (eIsi .lst (eVar 0))) (tVal (eIsi .lst (eVar 1))))) (sSeq (sRet (eAnd (eCmp cEq (eCall bLen (aCons (eVar 0) aNil)) (eCall bLen (aCons (eVar 1) aNil))) (eCall bAll (aCons (eLc false [2] (iRng1 (aCons (eCall bLen (aCons (eVar 0) aNil)) aNil)) (gName 2) tTrue (eCall rec (aCons (eIt (eVar 0) (eVar 2)) (aCons (eIt (eVar 1) (eVar 2)) aNil)))) aNil))))
  sNil) sNil)
  (sSeq (sIf (tOr (tVal (eIsi .bl (eVar 0))) (tVal (eIsi .bl (eVar 1)))) (sSeq (sRet (eAnd (eIsi .bl (eVar 0)) (eAnd (eIsi .bl (eVar 1)) (eCmp cEq (eVar 0) (eVar 1)))))
  sNil) sNil)
  (sSeq (sIf (tOr (tAnd (tVal (eIsi .int (eVar 0))) (tVal (eIsi .int (eVar 1)))) (tAnd (tVal (eIsi .str (eVar 0))) (tVal (eIsi .str (eVar 1))))) (sSeq (sRet (eCmp cEq (eVar 0) (eVar 1)))
  sNil) sNil)
  (sSeq (sRet (eAnd (eCmp (cIsN false) (eVar 0) (eC .none)) (eCmp (cIsN false) (eVar 1) (eC .none))))
  sNil))))
noncomputable def m__law_same : Nat → FA
  | 0 => fun _ _ => none
  | n + 1 => fnR 2 3 false (b__law_same (m__law_same n))
/-- data that is equal to itself, of no great depth -/
def sok : Nat → PyData → Prop
  | 0, _ => False
  | n + 1, .tuple xs => xs.length ≤ lim ∧ ∀ x ∈ xs, sok n x
  | n + 1, .list xs => xs.length ≤ lim ∧ ∀ x ∈ xs, sok n x
  | _ + 1, .dict _ => False
  | _ + 1, _ => True
theorem bools_true (xs : List Nat) : bools ((xs.map fun _ => PyData.bool true).map D.d) = some (xs.map fun _ => true) := by
  induction xs with
  | nil => rfl
  | cons x xs ih => simp only [List.map_cons, bools, ih]
theorem v_all {s : Sto} (xs : List Nat) : bAll s [.d (.list (xs.map fun _ => PyData.bool true))] = some (.d (.bool true), s) := by
  unfold bAll qL f1 asL
  simp only [bools_true]
  simp
theorem rng_mem {k n : Nat} (h : k ∈ List.range n) : k < n := List.mem_range.mp h
theorem same_row {F : FA} {xs : List PyData} {s : Sto} {Q : D → Sto → Prop} {l0 : Option D} {d : D} (hd : d = .d (.tuple xs) ∨ d = .d (.list xs)) (hl : xs.length ≤ lim) (h : ∀ x ∈ xs, ∀ s, F s [.d x, .d x] = some (.d (.bool true), s)) (q : Q (.d (.list ((List.range xs.length).map fun _ => .bool true))) s) :
    R (eLc false [2] (iRng1 (aCons (eCall bLen (aCons (eVar 0) aNil)) aNil)) (gName 2) tTrue (eCall F (aCons (eIt (eVar 0) (eVar 2)) (aCons (eIt (eVar 1) (eVar 2)) aNil))) [some d, some d, l0] s) Q := by
  have hl' : xs.length ≤ 1000000 := hl
  refine R_lcm (List.range xs.length) (fun k => .d (.int ((0 : Int) + (k : Nat)))) (fun _ => .bool true) ?_ (fun k hk acc => ?_) (by simpa using hl) q
  · rcases hd with rfl | rfl
    · simp [rngD]
      omega
    · simp [rngD, len_l]
      omega
  · have hk := rng_mem hk
    have hx : xs[k]? = some xs[k] := List.getElem?_eq_getElem hk
    have hh : itF (s ++ [.lst acc]) d (.d (.int (k : Nat))) = some (.d xs[k]) := by
      rcases hd with rfl | rfl
      · exact itF_t (atI_nat hx)
      · exact itF_tl (atI_nat hx)
    simp [wipeN, R_it, hh, h _ (List.getElem_mem hk)]
theorem same_ok : ∀ (n : Nat) (x : PyData) (s : Sto), sok n x → m__law_same n s [.d x, .d x] = some (.d (.bool true), s)
  | 0, _, _, h => h.elim
  | n + 1, x, s, h => by
    apply R.eq
    unfold m__law_same b__law_same
    cases x with
    | tuple xs =>
      obtain ⟨hl, h⟩ := h
      simp [R_fn, TyT.of, Z.isTup, Z.isLst, Z.isBl, Z.isInt, Z.isStr]
      refine same_row (.inl rfl) hl (fun x hx s => same_ok n x s (h x hx)) ?_
      simp [v_all, R_retd]
    | list xs =>
      obtain ⟨hl, h⟩ := h
      simp [R_fn, TyT.of, Z.isTup, Z.isLst, Z.isBl, Z.isInt, Z.isStr, len_l]
      refine same_row (.inr rfl) hl (fun x hx s => same_ok n x s (h x hx)) ?_
      simp [v_all, R_retd]
    | dict kvs => exact h.elim
    | int i => simp [R_fn, TyT.of, Z.isTup, Z.isLst, Z.isBl, Z.isInt, Z.isStr, R_retd]
    | bool i => simp [R_fn, TyT.of, Z.isTup, Z.isLst, Z.isBl, Z.isInt, Z.isStr, R_retd]
    | str i => simp [R_fn, TyT.of, Z.isTup, Z.isLst, Z.isBl, Z.isInt, Z.isStr, R_retd]
    | none => simp [R_fn, TyT.of, Z.isTup, Z.isLst, Z.isBl, Z.isInt, Z.isStr, R_retd]
theorem R_same {n : Nat} {x : PyData} {s : Sto} {Q : D → Sto → Prop} (h : sok n x) (q : Q (.d (.bool true)) s) : R (m__law_same n s [.d x, .d x]) Q := .of (same_ok n x s h) q

theorem data_mapf {α : Type} (f : α → PyData) (l : List α) : data (l.map (D.d ∘ f)) = some (l.map f) := by
  rw [← List.map_map, data_map]
theorem ret_own {s s' : Sto} {j : Nat} {Q : D → Sto → Prop} (h : s.length ≤ j) : R (ret true s (.r j) s') Q ↔ Q (.r j) s' := by
  unfold ret
  simp only [if_neg (show ¬ j < s.length by omega), if_true, R_some]
end N

namespace N
open PySem L2 PyProof.Rows

/-- .. of some -/
def xr : List Nat → Nat
  | [] => 0
  | n :: ns => n ^^^ xr ns
end N

namespace N
open PySem L2 PyProof.Rows

/-- a row of numbers -/
def nt (ns : List Nat) : List PyData := ns.map fun n => .int (n : Nat)
@[simp] theorem nt_len (ns : List Nat) : (nt ns).length = ns.length := by simp [nt]
def ci (n : Nat) : Int := n
end N

namespace N
open PySem L2 PyProof.Rows

def Rm (o : Option (List D × D)) (Q : List D → D → Prop) : Prop := ∃ ys z, o = some (ys, z) ∧ Q ys z
@[simp] theorem Rm_some {ys : List D} {z : D} {Q : List D → D → Prop} : Rm (some (ys, z)) Q ↔ Q ys z := ⟨fun ⟨_, _, h, q⟩ => by cases h; exact q, fun q => ⟨_, _, rfl, q⟩⟩
@[simp] theorem Rm_none {Q : List D → D → Prop} : Rm none Q ↔ False := ⟨fun ⟨_, _, h, _⟩ => (by cases h), False.elim⟩
theorem trim_len {s s' : Sto} (h : s'.length = s.length) : trim s s' = s' := by
  unfold trim
  split
  · rw [← h, List.take_length]
  · rfl
theorem trimE_len {s s' : Sto} {e : Lo} (h : s'.length = s.length) : trimE s e s' = s' := by
  unfold trimE
  split
  · exact trim_len h
  · rfl
@[simp] theorem trimE_last {s : Sto} {c c' : Cell} {e : Lo} : trimE (s ++ [c]) e (s ++ [c']) = s ++ [c'] := trimE_len (by simp)
@[simp] theorem set_last {s : Sto} {c c' : Cell} : (s ++ [c]).set s.length c' = s ++ [c'] := by
  rw [List.set_append_right _ _ (Nat.le_refl _), Nat.sub_self]
  rfl
section
variable {e : Lo} {s : Sto} {Q : D → Sto → Prop}
@[simp] theorem R_meth (f : FM) (ma : ME) (ms : MA) : R (eMeth f ma ms e s) Q ↔ R (ma e s) fun o s1 => match o with
  | .r j => match s1[j]? with
    | some (.lst _) => R (ms e s1) fun ds s2 => match s2[j]? with
      | some (.lst xs) => Rm (f s2 xs ds) fun ys z => Q z (s2.set j (.lst ys))
      | _ => False
    | _ => False
  | _ => False := by
  unfold eMeth
  rcases ma e s with _ | ⟨o, s1⟩
  · simp
  · rcases o with x | j
    · simp
    · simp only [R_some]
      rcases s1[j]? with _ | c
      · simp
      · rcases c with ds | kvs | kvs | kvs | ⟨rl, rh⟩ | _
        · rcases h : ms e s1 with _ | ⟨as, s2⟩
          · simp [h]
          · simp only [h, R_some]
            rcases s2[j]? with _ | c
            · simp
            · rcases c with xs | kvs | kvs | kvs | ⟨rl, rh⟩ | _
              · simp only []
                rcases h2 : f s2 xs as with _ | ⟨ys, z⟩ <;> simp [h2]
              · simp
              · simp
              · simp
              · simp
              · simp
        · simp
        · simp
        · simp
        · simp
        · simp
@[simp] theorem v_app {xs : List D} {d : D} {Qm : List D → D → Prop} : Rm (fApp s xs [d]) Qm ↔ xs.length < lim ∧ Qm (xs ++ [d]) (.d .none) := by
  unfold fApp
  by_cases h : xs.length < lim <;> simp [h]
theorem v_ext {xs ys : List D} {d : D} {Qm : List D → D → Prop} (h : asL s d = some ys) : Rm (fExt s xs [d]) Qm ↔ xs.length + ys.length ≤ lim ∧ Qm (xs ++ ys) (.d .none) := by
  unfold fExt
  by_cases hl : xs.length + ys.length ≤ lim <;> simp [h, hl]
@[simp] theorem v_extL {xs : List D} {ys : List PyData} {Qm : List D → D → Prop} : Rm (fExt s xs [.d (.list ys)]) Qm ↔ xs.length + ys.length ≤ lim ∧ Qm (xs ++ ys.map .d) (.d .none) := by
  rw [v_ext (ys := ys.map .d) rfl, List.length_map]
end
theorem kHas_put {kvs : List (Key × D)} {k k' : Key} {d : D} : kHas (kPut kvs k d) k' = true ↔ k' = k ∨ kHas kvs k' = true := by
  unfold kPut kHas
  split
  · rename_i h
    simp only [List.any_map, List.any_eq_true, Function.comp, decide_eq_true_eq] at h ⊢
    constructor
    · rintro ⟨kv, hm, he⟩
      split at he
      · exact .inr ⟨kv, hm, he⟩
      · exact .inr ⟨kv, hm, he⟩
    · rintro (rfl | ⟨kv, hm, he⟩)
      · obtain ⟨kv, hm, he⟩ := h
        exact ⟨kv, hm, by split <;> exact he⟩
      · exact ⟨kv, hm, by split <;> exact he⟩
  · simp only [List.any_append, List.any_cons, List.any_nil, Bool.or_false, Bool.or_eq_true, decide_eq_true_eq]
    constructor
    · rintro (h | h)
      · exact .inr h
      · exact .inl h.symm
    · rintro (h | h)
      · exact .inr h.symm
      · exact .inl h
theorem kPut_len {kvs : List (Key × D)} {k : Key} {d : D} : (kPut kvs k d).length ≤ kvs.length + 1 := by
  unfold kPut
  split <;> simp
end N

namespace N
open PySem L2 PyProof.Rows

/-- the least that is missing -/
def Mex (ns : List Nat) (k : Nat) : Prop := (∀ i < k, i ∈ ns) ∧ k ∉ ns
theorem mem_nt {ns : List Nat} {k : Nat} : PyData.int (k : Nat) ∈ nt ns ↔ k ∈ ns := by
  unfold nt
  rw [List.mem_map]
  constructor
  · rintro ⟨a, h, e⟩
    have : a = k := by simp at e; omega
    exact this ▸ h
  · exact fun h => ⟨k, h, rfl⟩
theorem pks_nt (ns : List Nat) : pks (nt ns) = true := pks_iff.mpr (by simp [nt, pk])
end N

namespace N
open PySem L2 PyProof.Rows

def so (l : List Nat) : List Nat := l.mergeSort fun a b => decide (a ≤ b)
theorem so_perm (l : List Nat) : (so l).Perm l := List.mergeSort_perm _ _
theorem depth_nt (l : List Nat) : (PyData.tuple (nt l)).depth ≤ 1 := by
  have : PyData.depthAll (nt l) = 0 := by
    induction l with
    | nil => rfl
    | cons a l ih => rw [nt, List.map_cons, PyData.depthAll]; rw [nt] at ih; rw [ih]; simp [PyData.depth]
  simp [PyData.depth, this]
/-- the heaps that stand -/
def pl (l : List Nat) : List Nat := so (l.filter fun n => decide (0 < n))
theorem sum_perm {l m : List Nat} (h : l.Perm m) : l.sum = m.sum := h.sum_nat
theorem sum_filter (l : List Nat) : (l.filter fun n => decide (0 < n)).sum = l.sum := by
  induction l with
  | nil => rfl
  | cons a l ih =>
    rw [List.filter_cons]
    by_cases h : 0 < a
    · simp [h, ih]
    · simp [h, ih]; omega
theorem pl_sum (l : List Nat) : (pl l).sum = l.sum := by rw [pl, sum_perm (so_perm _), sum_filter]
theorem pl_mem {l : List Nat} {n : Nat} : n ∈ pl l ↔ n ∈ l ∧ 0 < n := by
  rw [pl, (so_perm _).mem_iff, List.mem_filter, decide_eq_true_eq]
end N

namespace N
open PySem L2 PyProof.Rows

section
variable (rst : Nat → List (List Nat)) (losing : Bool)
def opts (hs : List Nat) : List (List Nat) := (List.range hs.length).flatMap fun i => (rst (hs.getD i 0)).map fun r => pl (hs.take i ++ r ++ hs.drop (i + 1))
def secF : Nat → List Nat → Bool
  | 0, _ => false
  | f + 1, hs => if opts rst hs = [] then !losing else !((opts rst hs).any (secF f))
def sec (hs : List Nat) : Bool := secF rst losing (hs.sum + 1) hs
end
section
variable {rst : Nat → List (List Nat)} {losing : Bool}
theorem sum_split {hs : List Nat} {i : Nat} (h : i < hs.length) : hs.sum = (hs.take i).sum + hs.getD i 0 + (hs.drop (i + 1)).sum := by
  have e : hs = hs.take i ++ hs[i] :: hs.drop (i + 1) := by rw [← List.drop_eq_getElem_cons h, List.take_append_drop]
  have := congrArg List.sum e
  rw [this, List.sum_append, List.sum_cons, List.getD_eq_getElem?_getD, List.getElem?_eq_getElem h]
  simp only [Option.getD_some]
  omega
theorem mem_opts {hs o : List Nat} : o ∈ opts rst hs ↔ ∃ i, i < hs.length ∧ ∃ r ∈ rst (hs.getD i 0), o = pl (hs.take i ++ r ++ hs.drop (i + 1)) := by
  unfold opts
  simp only [List.mem_flatMap, List.mem_range, List.mem_map]
  constructor
  · rintro ⟨i, h1, r, h2, rfl⟩; exact ⟨i, h1, r, h2, rfl⟩
  · rintro ⟨i, h1, r, h2, rfl⟩; exact ⟨i, h1, r, h2, rfl⟩
theorem getD_le {hs : List Nat} {i N : Nat} (hS : ∀ a ∈ hs, a ≤ N) (h : i < hs.length) : hs.getD i 0 ≤ N := by
  rw [List.getD_eq_getElem?_getD, List.getElem?_eq_getElem h]
  exact hS _ (List.getElem_mem h)
theorem mem_le_sum {l : List Nat} {a : Nat} (h : a ∈ l) : a ≤ l.sum := by
  induction l with
  | nil => cases h
  | cons b l ih =>
    rw [List.sum_cons]
    rcases List.mem_cons.mp h with rfl | h
    · omega
    · have := ih h; omega
theorem opts_le {N : Nat} (hr : ∀ n ≤ N, ∀ r ∈ rst n, r.sum < n) {hs o : List Nat} (hS : ∀ a ∈ hs, a ≤ N) (h : o ∈ opts rst hs) : ∀ a ∈ o, a ≤ N := by
  obtain ⟨i, h1, r, h2, rfl⟩ := mem_opts.mp h
  intro a ha
  have := hr _ (getD_le hS h1) r h2
  have hN := getD_le hS h1
  rcases List.mem_append.mp (pl_mem.mp ha).1 with h3 | h3
  · rcases List.mem_append.mp h3 with h3 | h3
    · exact hS a (List.mem_of_mem_take h3)
    · have := mem_le_sum h3; omega
  · exact hS a (List.mem_of_mem_drop h3)
theorem opts_sum {N : Nat} (hr : ∀ n ≤ N, ∀ r ∈ rst n, r.sum < n) {hs o : List Nat} (hS : ∀ a ∈ hs, a ≤ N) (h : o ∈ opts rst hs) : o.sum < hs.sum := by
  obtain ⟨i, h1, r, h2, rfl⟩ := mem_opts.mp h
  have e := sum_split h1
  have := hr _ (getD_le hS h1) r h2
  rw [pl_sum, List.sum_append, List.sum_append]
  omega
theorem secF_two {N : Nat} (hr : ∀ n ≤ N, ∀ r ∈ rst n, r.sum < n) : ∀ (f g : Nat) (hs : List Nat), hs.sum < f → hs.sum < g → (∀ a ∈ hs, a ≤ N) → secF rst losing f hs = secF rst losing g hs
  | 0, _, hs, h, _, _ => by omega
  | _ + 1, 0, hs, _, h, _ => by omega
  | f + 1, g + 1, hs, h, h', hS => by
    rw [secF, secF]
    split
    · rfl
    · congr 1
      rw [Bool.eq_iff_iff, List.any_eq_true, List.any_eq_true]
      have e o (ho : o ∈ opts rst hs) : secF rst losing f o = secF rst losing g o := by
        have := opts_sum hr hS ho
        exact secF_two hr f g o (by omega) (by omega) (opts_le hr hS ho)
      constructor
      · rintro ⟨o, h1, h2⟩; exact ⟨o, h1, by rwa [← e o h1]⟩
      · rintro ⟨o, h1, h2⟩; exact ⟨o, h1, by rwa [e o h1]⟩
theorem secF_enough {N : Nat} (hr : ∀ n ≤ N, ∀ r ∈ rst n, r.sum < n) (f : Nat) (hs : List Nat) (h : hs.sum < f) (hS : ∀ a ∈ hs, a ≤ N) : secF rst losing f hs = sec rst losing hs := secF_two hr f _ hs h (by omega) hS
theorem sec_eq {N : Nat} (hr : ∀ n ≤ N, ∀ r ∈ rst n, r.sum < n) {hs : List Nat} (hS : ∀ a ∈ hs, a ≤ N) : sec rst losing hs = if opts rst hs = [] then !losing else !((opts rst hs).any (sec rst losing)) := by
  rw [show sec rst losing hs = secF rst losing (hs.sum + 1) hs from rfl]
  rw [secF]
  split
  · rfl
  · congr 1
    rw [Bool.eq_iff_iff, List.any_eq_true, List.any_eq_true]
    have h o (ho : o ∈ opts rst hs) : secF rst losing hs.sum o = sec rst losing o := by
      have := opts_sum hr hS ho
      exact secF_enough hr _ _ this (opts_le hr hS ho)
    constructor
    · rintro ⟨o, h1, h2⟩; exact ⟨o, h1, by rwa [← h o h1]⟩
    · rintro ⟨o, h1, h2⟩; exact ⟨o, h1, by rwa [h o h1]⟩
end
/-- rows that ascend from lo, of a sum of n at most -/
def rowsOf : Nat → Nat → Nat → List (List Nat)
  | 0, _, _ => [[]]
  | f + 1, lo, n => [] :: (List.range (n + 1)).flatMap fun a => if lo ≤ a ∧ 0 < a then (rowsOf f a (n - a)).map (a :: ·) else []
theorem rowsOf_mem : ∀ {l : List Nat} {f lo n : Nat}, l.Pairwise (· ≤ ·) → (∀ a ∈ l, lo ≤ a ∧ 0 < a) → l.sum ≤ n → l.length ≤ f → l ∈ rowsOf f lo n
  | [], 0, _, _, _, _, _, _ => by simp [rowsOf]
  | [], f + 1, _, _, _, _, _, _ => by simp [rowsOf]
  | a :: l, f + 1, lo, n, hp, hl, hs, hf => by
    rw [rowsOf, List.mem_cons]
    refine .inr (List.mem_flatMap.mpr ⟨a, ?_, ?_⟩)
    · rw [List.sum_cons] at hs
      rw [List.mem_range]; omega
    · rw [if_pos (hl a List.mem_cons_self)]
      rw [List.pairwise_cons] at hp
      rw [List.sum_cons] at hs
      refine List.mem_map.mpr ⟨l, rowsOf_mem hp.2 (fun b hb => ⟨hp.1 b hb, (hl b (List.mem_cons_of_mem _ hb)).2⟩) (by omega) (by simpa using hf), rfl⟩
theorem sum_len : ∀ {l : List Nat}, (∀ a ∈ l, 0 < a) → l.length ≤ l.sum
  | [], _ => by simp
  | a :: l, h => by
    have := sum_len (l := l) fun b hb => h b (List.mem_cons_of_mem _ hb)
    have := h a List.mem_cons_self
    simp; omega
/-- how many they are -/
def cntOf : Nat → Nat → Nat → Nat
  | 0, _, _ => 1
  | f + 1, lo, n => 1 + ((List.range (n + 1)).map fun a => if lo ≤ a ∧ 0 < a then cntOf f a (n - a) else 0).sum
theorem cntOf_len : ∀ (f lo n : Nat), (rowsOf f lo n).length = cntOf f lo n
  | 0, _, _ => rfl
  | f + 1, lo, n => by
    rw [rowsOf, cntOf, List.length_cons, List.length_flatMap, Nat.add_comm]
    congr 2
    refine List.map_congr_left fun a _ => ?_
    split
    · rw [List.length_map, cntOf_len f]
    · rfl
theorem nodup_le {α : Type} [DecidableEq α] : ∀ {l m : List α}, l.Nodup → (∀ x ∈ l, x ∈ m) → l.length ≤ m.length
  | [], _, _, _ => by simp
  | a :: l, m, hn, hs => by
    rw [List.nodup_cons] at hn
    have h1 := hs a List.mem_cons_self
    have := nodup_le (l := l) (m := m.erase a) hn.2 fun x hx => (List.mem_erase_of_ne (fun e => hn.1 (by rwa [e] at hx))).mpr (hs x (List.mem_cons_of_mem _ hx))
    rw [List.length_erase_of_mem h1] at this
    have := List.length_pos_of_mem h1
    simp; omega
theorem few21 : cntOf 21 0 21 ≤ 5000 := by decide +kernel
end N

namespace N
open PySem L2 PyProof.Rows

theorem nt_inj {a b : List Nat} (h : nt a = nt b) : a = b := by
  have := congrArg (List.map fun x => match x with | PyData.int i => i.toNat | _ => 0) h
  simpa [nt, Function.comp_def] using this
theorem key_nt (l : List Nat) : isKey (.tuple (nt l)) = true := by
  have := key_ints (l.map ci)
  rwa [List.map_map] at this
section
variable (rst : Nat → List (List Nat)) (losing : Bool)
def ent (h : List Nat) : PyData × D := (.tuple (nt h), .d (.bool (sec rst losing h)))
end
structure Gd (N S : Nat) (h : List Nat) : Prop where
  so : h.Pairwise (· ≤ ·)
  po : ∀ a ∈ h, 0 < a
  su : h.sum ≤ S
  le : ∀ a ∈ h, a ≤ N
structure MOK (N S : Nat) (M : List (List Nat)) : Prop where
  nd : M.Nodup
  gd : ∀ h ∈ M, Gd N S h
theorem MOK.few {N : Nat} {M : List (List Nat)} (h : MOK N 21 M) : M.length ≤ 5000 := by
  have := nodup_le (m := rowsOf 21 0 21) h.nd fun x hx => by
    have g := h.gd x hx
    exact rowsOf_mem g.so (fun a ha => ⟨Nat.zero_le _, g.po a ha⟩) g.su (Nat.le_trans (sum_len g.po) g.su)
  rw [cntOf_len] at this
  exact Nat.le_trans this few21
section
variable {rst : Nat → List (List Nat)} {losing : Bool} {c : D} {N S : Nat}
theorem MOK.put {M : List (List Nat)} {h : List Nat} (m : MOK N S M) (g : Gd N S h) : MOK N S (if h ∈ M then M else M ++ [h]) := by
  split
  · exact m
  · rename_i hn
    refine ⟨?_, fun x hx => ?_⟩
    · rw [List.nodup_append]
      exact ⟨m.nd, by simp, fun a ha b hb => by simp at hb; subst hb; exact fun e => hn (e ▸ ha)⟩
    · rcases List.mem_append.mp hx with h' | h'
      · exact m.gd x h'
      · simp at h'; exact h' ▸ g
end
end N

namespace N
open PySem L2 PyProof.Rows

section
variable {rst : Nat → List (List Nat)} {losing : Bool} {c : D} {N S : Nat}
theorem cut_lo {α : Type} {xs : List α} {i : Nat} (h : i ≤ xs.length) : cutD xs none (some (i : Int)) = xs.take i := by
  unfold cutD
  rw [HT.sIx_none, HT.sIx_nat, Nat.min_eq_left h]
  simp
theorem cut_hi {α : Type} {xs : List α} {i : Nat} (h : i ≤ xs.length) : cutD xs (some (i : Int)) none = xs.drop i := by
  unfold cutD
  rw [HT.sIx_none, HT.sIx_nat, Nat.min_eq_left h]
  exact List.take_of_length_le (by simp)
/-- a comprehension whose turns change the store, in its length -/
theorem R_lcJ {α : Type} (l : List α) (enc : α → D) (Iv : Nat → List PyData → Sto → Prop) {vs : List Nat} {mi : MI} {g : MG} {mt : MT} {el : ME} {e : Lo} {s : Sto} {Q : D → Sto → Prop} (hi : Ri (mi e s) fun items ck s1 => items = l.map enc ∧ ck = none ∧ s1 = s) (h0 : Iv 0 [] s)
    (hk : ∀ i acc s', Iv i acc s' → s'.length = s.length ∧ trim s (s' ++ [.gone]) = s') (h : ∀ i x acc s, l[i]? = some x → Iv i acc s → Rc (g (enc x) (wipeN e vs)) fun e1 => R (mt e1 (s ++ [.lst (acc.map .d)])) fun b s1 => (b = false → ∃ s', s1 = s' ++ [.lst (acc.map .d)] ∧ Iv (i + 1) acc s') ∧ (b = true → R (el e1 s1) fun y s2 => ∃ z s', y = .d z ∧ s2 = s' ++ [.lst (acc.map .d)] ∧ Iv (i + 1) (acc ++ [z]) s'))
    (hl : l.length ≤ lim) (q : ∀ acc s, Iv l.length acc s → Q (.d (.list acc)) s) : R (eLc false vs mi g mt el e s) Q := by
  obtain ⟨_, _, s1, h1, rfl, rfl, h2⟩ := hi
  subst h2
  obtain ⟨acc', s', h3, xs, rfl, h4⟩ := lcL_inv (k := s1.length) (g := g) (mt := mt) (el := el) (e0 := wipeN e vs) (enc := enc) (fun i acc s => ∃ xs : List PyData, acc = xs.map .d ∧ Iv i xs s) (fun i acc s ⟨xs, _, hi⟩ => (hk _ _ _ hi).1) l 0 [] s1 (fun i x acc s hx ⟨xs, ea, hi⟩ => by
    subst ea
    rw [Nat.zero_add] at hi ⊢
    obtain ⟨e1, h5, b, s2, h6, h7, h8⟩ := h i x xs s hx hi
    refine ⟨e1, h5, ?_⟩
    cases b with
    | false =>
      obtain ⟨s', rfl, h9⟩ := h7 rfl
      exact .inl ⟨s', h6, xs, rfl, h9⟩
    | true =>
      obtain ⟨y, s3, h9, z, s', rfl, rfl, h10⟩ := h8 rfl
      exact .inr ⟨s2, _, s', h6, h9, xs ++ [z], by simp, h10⟩) (by simpa using hl) ⟨[], rfl, h0⟩
  rw [Nat.zero_add] at h4
  have hk2 := hk _ _ _ h4
  refine R.of (x := .d (.list xs)) (s := s') ?_ (q _ _ h4)
  unfold eLc
  simp only [h1]
  rw [h3]
  unfold lcFin
  simp only []
  rw [List.getElem?_append_right (by omega), show s1.length - s'.length = 0 by omega]
  simp only [List.getElem?_cons_zero, data_map, Bool.false_eq_true, if_false]
  rw [List.set_append_right _ _ (by omega), show s1.length - s'.length = 0 by omega]
  simp only [List.set_cons_zero]
  rw [hk2.2]
/-- a row of a tuple -/
def ut : PyData → List Nat
  | .tuple xs => xs.map fun x => match x with
    | .int i => i.toNat
    | _ => 0
  | _ => []
theorem ut_nt (l : List Nat) : ut (.tuple (nt l)) = l := by simp [ut, nt, Function.comp_def]
theorem alike_nt (a b : List Nat) : PySem.W.alike (.tuple (nt a)) (.tuple (nt b)) = true := by
  have := PySem.W.alike_ints (a.map ci) (b.map ci)
  rw [List.map_map, List.map_map] at this
  rw [PySem.W.alike]
  exact this
theorem bools_mapf {α : Type} (f : α → Bool) (l : List α) : bools (l.map (D.d ∘ fun x => PyData.bool (f x))) = some (l.map f) := by
  induction l with
  | nil => rfl
  | cons x l ih => simp only [List.map_cons, Function.comp_apply, bools, ih]
theorem v_any {α : Type} {s : Sto} (f : α → Bool) (l : List α) : bAny s [.d (.list (l.map fun x => PyData.bool (f x)))] = some (.d (.bool (l.any f)), s) := by
  unfold bAny qL f1 asL
  simp only [List.map_map, bools_mapf]
  simp
def plo (hs : List Nat) (i : Nat) (r : List Nat) : List Nat := pl (hs.take i ++ r ++ hs.drop (i + 1))
def NewOf (rst : Nat → List (List Nat)) (hs : List Nat) (i : Nat) (o : List Nat) : Prop := ∃ i', i' < i ∧ ∃ r ∈ rst (hs.getD i' 0), o = plo hs i' r
theorem newOf_succ {hs o : List Nat} {i : Nat} : NewOf rst hs (i + 1) o ↔ NewOf rst hs i o ∨ ∃ r ∈ rst (hs.getD i 0), o = plo hs i r := by
  constructor
  · rintro ⟨i', h1, h2⟩
    rcases Nat.lt_or_ge i' i with h | h
    · exact .inl ⟨i', h, h2⟩
    · exact .inr (by rwa [show i' = i by omega] at h2)
  · rintro (⟨i', h1, h2⟩ | h)
    · exact ⟨i', by omega, h2⟩
    · exact ⟨i, by omega, h⟩
theorem newOf_all {hs o : List Nat} : NewOf rst hs hs.length o ↔ o ∈ opts rst hs := by
  rw [mem_opts]
  rfl
end
end N

namespace N
open PySem L2 PyProof.Rows

end N

namespace N
open PySem L2 PyProof.Rows

/-- cells that refer to nothing -/
def Flat (g : Sto) : Prop := ∀ c ∈ g, ∀ n, c.below n
theorem flat_nil : Flat [] := fun c h => by cases h
theorem TS.len {rest s : Sto} (h : TS rest s) : s.length = 2 + rest.length := by
  obtain ⟨xs, p, q, r, _, rfl⟩ := h
  simp [tp]; omega
theorem TS.wf {rest s : Sto} (h : TS rest s) (f : Flat rest) : Wf s := by
  have hl := h.len
  obtain ⟨xs, p, q, r, _, rfl⟩ := h
  intro c hc
  unfold tp at hc
  rcases List.mem_cons.mp hc with rfl | hc
  · intro j hj; simp at hj
  · rcases List.mem_cons.mp hc with rfl | hc
    · intro j hj
      simp at hj
      omega
    · exact f c hc _
theorem TS.app {rest s : Sto} (h : TS rest s) (g : Sto) : TS (rest ++ g) (s ++ g) := by
  obtain ⟨xs, p, q, r, hp, rfl⟩ := h
  exact ⟨xs, p, q, r, hp, rfl⟩
theorem TS.unapp {rest g s : Sto} (h : TS (rest ++ g) s) : ∃ s', s = s' ++ g ∧ TS rest s' := by
  obtain ⟨xs, p, q, r, hp, rfl⟩ := h
  exact ⟨tp xs p q r rest, rfl, xs, p, q, r, hp, rfl⟩
theorem TS.get {rest s : Sto} (h : TS rest s) (j : Nat) : s[j + 2]? = rest[j]? := by
  obtain ⟨xs, p, q, r, hp, rfl⟩ := h
  rfl
theorem TS.put {rest s : Sto} (h : TS rest s) (j : Nat) (c : Cell) : TS (rest.set j c) (s.set (j + 2) c) := by
  obtain ⟨xs, p, q, r, hp, rfl⟩ := h
  exact ⟨xs, p, q, r, hp, rfl⟩
end N

namespace N
open PySem L2 PyProof.Rows

def resC (d rest : Nat) : List (List Nat) := (if rest = 0 ∧ d % 2 = 1 then [[]] else []) ++ ((if 1 ≤ rest ∧ d / 2 % 2 = 1 then [[rest]] else []) ++ (if 2 ≤ rest ∧ d / 4 = 1 then (List.range (rest / 2)).map fun a => [a + 1, rest - (a + 1)] else []))
def rstC (c : List Nat) (n : Nat) : List (List Nat) := (List.range c.length).flatMap fun j => if j < n then resC (c.getD j 0) (n - j - 1) else []
theorem resC_sum {d rest : Nat} {r : List Nat} (h : r ∈ resC d rest) : r.sum = rest ∧ r.length ≤ 2 ∧ ∀ a ∈ r, 0 < a := by
  unfold resC at h
  rcases List.mem_append.mp h with h | h
  · split at h
    · rename_i e
      simp at h; subst h
      exact ⟨by simp; omega, by simp, by simp⟩
    · simp at h
  · rcases List.mem_append.mp h with h | h
    · split at h
      · rename_i e
        simp at h; subst h
        exact ⟨by simp, by simp, by simp; omega⟩
      · simp at h
    · split at h
      · obtain ⟨a, ha, rfl⟩ := List.mem_map.mp h
        rw [List.mem_range] at ha
        exact ⟨by simp; omega, by simp, by simp; omega⟩
      · simp at h
theorem mem_rstC {c : List Nat} {n : Nat} {r : List Nat} : r ∈ rstC c n ↔ ∃ j, j < c.length ∧ j < n ∧ r ∈ resC (c.getD j 0) (n - j - 1) := by
  unfold rstC
  simp only [List.mem_flatMap, List.mem_range]
  constructor
  · rintro ⟨j, h1, h2⟩
    split at h2
    · exact ⟨j, h1, by assumption, h2⟩
    · cases h2
  · rintro ⟨j, h1, h2, h3⟩
    exact ⟨j, h1, by rw [if_pos h2]; exact h3⟩
theorem rstC_sum {c : List Nat} {n : Nat} {r : List Nat} (h : r ∈ rstC c n) : r.sum < n ∧ r.length ≤ 2 ∧ (∀ a ∈ r, 0 < a) ∧ ∀ a ∈ r, a < n := by
  obtain ⟨j, h1, h2, h3⟩ := mem_rstC.mp h
  obtain ⟨e1, e2, e3⟩ := resC_sum h3
  refine ⟨by omega, e2, e3, fun a ha => ?_⟩
  have := mem_le_sum ha
  omega
theorem Mex.congr {l m : List Nat} {k : Nat} (h : Mex l k) (e : ∀ x, x ∈ l ↔ x ∈ m) : Mex m k := ⟨fun i hi => (e i).mp (h.1 i hi), fun hm => h.2 ((e k).mpr hm)⟩
end N

namespace N
open PySem L2 PyProof.Rows

/-- a tuple of numbers -/
def tup (r : List Nat) : PyData := .tuple (nt r)
theorem tup_inj {a b : List Nat} (h : tup a = tup b) : a = b := by
  unfold tup at h
  exact nt_inj (PyData.tuple.inj h)
theorem ut_tup (r : List Nat) : ut (tup r) = r := ut_nt r
/-- what may be left, ascending -/
noncomputable def lcD (c : List Nat) (n : Nat) : List (List Nat) := (Z.srt (Z.dd ((rstC c n).map tup))).map ut
theorem mem_srtdd {L : List (List Nat)} {x : PyData} : x ∈ Z.srt (Z.dd (L.map tup)) ↔ ∃ r ∈ L, x = tup r := by
  rw [(Z.srt_perm _).mem_iff, Z.dd_mem, List.mem_map]
  constructor
  · rintro ⟨r, h, rfl⟩; exact ⟨r, h, rfl⟩
  · rintro ⟨r, h, rfl⟩; exact ⟨r, h, rfl⟩
theorem mem_lcD {c : List Nat} {n : Nat} {r : List Nat} : r ∈ lcD c n ↔ r ∈ rstC c n := by
  unfold lcD
  rw [List.mem_map]
  constructor
  · rintro ⟨x, h, rfl⟩
    obtain ⟨r, hr, rfl⟩ := mem_srtdd.mp h
    rwa [ut_tup]
  · intro h
    exact ⟨tup r, mem_srtdd.mpr ⟨r, h, rfl⟩, ut_tup r⟩
theorem v_min2 {s : Sto} (i j : Int) : bMin2 s [.d (.int i), .d (.int j)] = some (.d (.int (mn2 i j)), s) := rfl
theorem mn2_nat (a b : Nat) : mn2 (a : Int) (b : Int) = ((min a b : Nat) : Int) := by
  unfold mn2
  split <;> omega
end N

namespace N
open PySem L2 PyProof.Rows

def DT (M : List (List Nat)) : List (PyData × D) := M.map fun r => (tup r, .d (.bool true))
theorem has_DT (M : List (List Nat)) (r : List Nat) : dHas (DT M) (tup r) = decide (r ∈ M) := by
  rw [Bool.eq_iff_iff, decide_eq_true_eq]
  unfold dHas DT
  simp only [List.any_map, List.any_eq_true, Function.comp, decide_eq_true_eq]
  exact ⟨fun ⟨x, h1, h2⟩ => tup_inj h2 ▸ h1, fun h1 => ⟨r, h1, rfl⟩⟩
theorem put_DT (M : List (List Nat)) (r : List Nat) : dPut (DT M) (tup r) (.d (.bool true)) = DT (if r ∈ M then M else M ++ [r]) := by
  unfold dPut
  rw [has_DT]
  by_cases hm : r ∈ M
  · rw [if_pos hm, decide_eq_true hm, if_pos rfl]
    unfold DT
    rw [List.map_map]
    refine List.map_congr_left fun x hx => ?_
    simp only [Function.comp]
    split <;> rfl
  · rw [if_neg hm, decide_eq_false hm, if_neg (by simp)]
    unfold DT
    rw [List.map_append]
    rfl
/-- a dict behind s, its keys those of T -/
def DS (s : Sto) (T : List (List Nat)) (s' : Sto) : Prop := ∃ M : List (List Nat), M.Nodup ∧ (∀ r, r ∈ M ↔ r ∈ T) ∧ s' = s ++ [.dic (DT M)]
theorem DS.len {s s' : Sto} {T : List (List Nat)} (h : DS s T s') : s'.length = s.length + 1 := by
  obtain ⟨M, _, _, rfl⟩ := h
  simp
theorem DS.put {s s' : Sto} {T : List (List Nat)} (h : DS s T s') (hT : T.length ≤ 10000) (r : List Nat) : Rc (putF s' (.r s.length) (.d (tup r)) (.d (.bool true))) fun s4 => DS s (T ++ [r]) s4 := by
  obtain ⟨M, nd, hm, rfl⟩ := h
  have hl : M.length ≤ T.length := nodup_le nd fun x hx => (hm x).mp hx
  have hp := putF_k (s := s ++ [.dic (DT M)]) (j := s.length) (kvs := DT M) (xs := nt r) (d := .d (.bool true)) (by simp) (key_nt r) (by simp [DT, lim]; omega)
  rw [show PyData.tuple (nt r) = tup r from rfl, put_DT, set_last] at hp
  rw [hp, Rc_some]
  refine ⟨_, ?_, fun x => ?_, rfl⟩
  · split
    · exact nd
    · rename_i hn
      rw [List.nodup_append]
      exact ⟨nd, by simp, fun a ha b hb => by simp at hb; subst hb; exact fun e => hn (e ▸ ha)⟩
  · split
    · rename_i hin
      rw [List.mem_append, ← hm, List.mem_singleton]
      exact ⟨.inl, fun h => h.elim id fun e => e ▸ hin⟩
    · rw [List.mem_append, List.mem_append, hm]
theorem srtOk_tup (M : List (List Nat)) : SrtOk (M.map tup) := by
  refine ⟨PySem.W.AllAlike.of fun a b => alike_nt a b, .inr fun d hd => ?_, fun d hd => ?_⟩
  · obtain ⟨a, _, rfl⟩ := List.mem_map.mp hd
    exact ⟨_, rfl⟩
  · obtain ⟨a, _, rfl⟩ := List.mem_map.mp hd
    have := depth_nt a
    exact Nat.le_trans this (by decide)
theorem dd_nodup : ∀ l : List PyData, (Z.dd l).Nodup
  | [] => List.nodup_nil
  | a :: l => by
    unfold Z.dd
    split
    · exact dd_nodup l
    · rename_i h
      exact List.nodup_cons.mpr ⟨fun hm => h (Z.dd_mem.mp hm), dd_nodup l⟩
end N

namespace N
open PySem L2 PyProof.Rows

theorem Mex.le {l : List Nat} {k : Nat} (h : Mex l k) : k ≤ l.length := by
  have := nodup_le (l := List.range k) (m := l) List.nodup_range fun x hx => h.1 x (List.mem_range.mp hx)
  simpa using this
theorem trimE_swap {s g : Sto} {a a' : Cell} {e : Lo} (h : a'.below (s.length + 1)) (he : LoBelow (s.length + 1) e) : trimE (s ++ [a]) e (s ++ [a'] ++ g) = s ++ [a'] := by
  have hs : Safe (s ++ [a]) (s ++ [a'] ++ g) := by
    refine ⟨by simp, fun j c hj hc => ?_⟩
    rw [List.length_append, List.length_singleton] at hj
    rw [List.getElem?_append_left (by simpa using hj)] at hc
    by_cases e : j = s.length
    · subst e
      rw [List.getElem?_concat_length] at hc
      cases hc
      exact .inr (by simpa using h)
    · rw [List.getElem?_append_left (by omega)] at hc
      exact .inl (by rw [List.getElem?_append_left (by omega)]; exact hc)
  unfold trimE trim
  rw [if_pos (by simpa using he), if_pos hs, List.length_append, List.length_singleton]
  exact List.take_left' (by simp)
/-- numbers of a row in the store -/
def cl (ns : List Nat) : Cell := .lst ((nt ns).map .d)
end N

namespace N
open PySem L2 PyProof.Rows

/-- what the walk over the heaps has met -/
structure FL (c hs : List Nat) (i : Nat) (met fine : Bool) : Prop where
  ok : fine = true → (∀ o, NewOf (rstC c) hs i o → sec (rstC c) true o = false) ∧ (met = true ↔ ∃ o, NewOf (rstC c) hs i o)
  no : fine = false → ∃ o ∈ opts (rstC c) hs, sec (rstC c) true o = true
theorem FL.val {c hs : List Nat} {met fine : Bool} (h : FL c hs hs.length met fine) : (met && fine) = sec (rstC c) true hs := by
  rw [sec_eq (rst := rstC c) (losing := true) (N := hs.sum) (fun n _ r hr => (rstC_sum hr).1) fun a ha => mem_le_sum ha]
  cases fine with
  | false =>
    obtain ⟨o, h1, h2⟩ := h.no rfl
    rw [if_neg (List.ne_nil_of_mem h1), Bool.and_false]
    symm
    rw [Bool.not_eq_false']
    exact List.any_eq_true.mpr ⟨o, h1, h2⟩
  | true =>
    obtain ⟨h1, h2⟩ := h.ok rfl
    rw [Bool.and_true]
    by_cases e : opts (rstC c) hs = []
    · rw [if_pos e]
      cases met with
      | false => rfl
      | true =>
        obtain ⟨o, ho⟩ := h2.mp rfl
        rw [newOf_all, e] at ho
        cases ho
    · rw [if_neg e]
      obtain ⟨o, ho⟩ := List.exists_mem_of_ne_nil _ e
      rw [h2.mpr ⟨o, newOf_all.mpr ho⟩]
      symm
      rw [Bool.not_eq_true', Bool.eq_false_iff]
      intro ha
      obtain ⟨o, h3, h4⟩ := List.any_eq_true.mp ha
      rw [h1 o (newOf_all.mpr h3)] at h4
      cases h4
theorem FL.skip {c hs : List Nat} {i : Nat} {met fine : Bool} (h : FL c hs i met fine) (e : fine = true → ∀ o, NewOf (rstC c) hs (i + 1) o ↔ NewOf (rstC c) hs i o) : FL c hs (i + 1) met fine := by
  refine ⟨fun hf => ?_, h.no⟩
  obtain ⟨h1, h2⟩ := h.ok hf
  exact ⟨fun o ho => h1 o ((e hf o).mp ho), h2.trans ⟨fun ⟨o, ho⟩ => ⟨o, (e hf o).mpr ho⟩, fun ⟨o, ho⟩ => ⟨o, (e hf o).mp ho⟩⟩⟩
theorem FL.stop {c hs : List Nat} {i : Nat} {met : Bool} {o : List Nat} (ho : o ∈ opts (rstC c) hs) (hs' : sec (rstC c) true o = true) : FL c hs i met false := ⟨fun h => (by cases h), fun _ => ⟨o, ho, hs'⟩⟩
theorem FL.go {c hs : List Nat} {i : Nat} {met : Bool} (h : FL c hs i met true) (hr : ∀ r ∈ lcD c (hs.getD i 0), sec (rstC c) true (plo hs i r) = false) : FL c hs (i + 1) (met || decide (0 < (lcD c (hs.getD i 0)).length)) true := by
  refine ⟨fun _ => ?_, fun h => (by cases h)⟩
  obtain ⟨h1, h2⟩ := h.ok rfl
  refine ⟨fun o ho => ?_, ?_⟩
  · rcases newOf_succ.mp ho with h | ⟨r, h, rfl⟩
    · exact h1 o h
    · exact hr r (mem_lcD.mpr h)
  · rw [Bool.or_eq_true, h2, decide_eq_true_eq]
    constructor
    · rintro (⟨o, ho⟩ | hp)
      · exact ⟨o, newOf_succ.mpr (.inl ho)⟩
      · obtain ⟨r, hr2⟩ := List.exists_mem_of_length_pos hp
        exact ⟨_, newOf_succ.mpr (.inr ⟨r, mem_lcD.mp hr2, rfl⟩)⟩
    · rintro ⟨o, ho⟩
      rcases newOf_succ.mp ho with h | ⟨r, h, rfl⟩
      · exact .inl ⟨o, h⟩
      · exact .inr (List.length_pos_of_mem (mem_lcD.mpr h))
end N

namespace N
open PySem L2 PyProof.Rows

def who (b : Bool) : PyData := if b = true then .str "second" else .str "first"
end N

namespace N
open PySem L2 PyProof.Rows

theorem v_addLL {xs ys : List PyData} {s : Sto} {Q : D → Sto → Prop} : R (oAdd false s (.d (.list xs)) (.d (.list ys))) Q ↔ xs.length + ys.length ≤ lim ∧ Q (.d (.list (xs ++ ys))) s := by
  unfold oAdd asL
  simp only [List.length_map]
  by_cases h : xs.length + ys.length ≤ lim
  · simp only [h, true_and, if_true]
    rw [← List.map_append, R_mkF, data_map, Rc_some]
  · simp [h]
end N

namespace N
open PySem L2 PyProof.Rows

end N

namespace N
open PySem L2 PyProof.Rows

end N

namespace N
open PySem L2 PyProof.Rows

section
variable {e : Lo} {s : Sto} {Q : D → Sto → Prop} {Qt : Bool → Sto → Prop}
@[simp] theorem R_chK (f g : Int → Int → Bool) (ma mb mc : ME) : R (chK f g ma mb mc e s) Qt ↔ R (ma e s) fun a s1 => match a with
  | .d (.int i) => R (mb e s1) fun b s2 => match b with
    | .d (.int j) => (f i j = true → R (mc e s2) fun c s3 => match c with
        | .d (.int k) => Qt (g j k) s3
        | _ => False) ∧ (f i j = false → Qt false s2)
    | _ => False
  | _ => False := by
  unfold chK
  rcases ma e s with _ | ⟨a, s1⟩
  · simp
  · rcases a with x | j
    · cases x <;> simp
      rename_i i
      rcases mb e s1 with _ | ⟨b, s2⟩
      · simp
      · rcases b with x | j
        · cases x <;> simp
          rename_i j
          cases hf : f i j
          · simp
          · simp
            rcases mc e s2 with _ | ⟨c, s3⟩
            · simp
            · rcases c with x | j
              · cases x <;> simp
              · simp
        · simp
    · simp
@[simp] theorem R_eCh (f g : Int → Int → Bool) (ma mb mc : ME) : R (eCh f g ma mb mc e s) Q ↔ R (chK f g ma mb mc e s) fun k s1 => Q (.d (.bool k)) s1 := by
  unfold eCh
  rcases chK f g ma mb mc e s with _ | ⟨k, s1⟩ <;> simp
end
noncomputable def b_is_number : MS := (sSeq (sRet (eAnd (eIsi .int (eVar 0)) (eAnd (eNot (eIsi .bl (eVar 0))) (eCh (fun i j => decide (i ≤ j)) (fun i j => decide (i ≤ j)) (eVar 1) (eVar 0) (eVar 2)))))
  sNil)
noncomputable def m_is_number : FA := fnR 3 3 false b_is_number
/-- an integer within bounds -/
def isN (a b : Int) : PyData → Bool
  | .int i => decide (a ≤ i) && decide (i ≤ b)
  | _ => false
theorem number_ok (x : PyData) (a b : Int) (s : Sto) : m_is_number s [.d x, .d (.int a), .d (.int b)] = some (.d (.bool (isN a b x)), s) := by
  apply R.eq
  unfold m_is_number b_is_number
  rw [R_fn]
  refine ⟨rfl, ?_⟩
  simp only [List.map_cons, List.map_nil, List.length_cons, List.length_nil, Nat.reduceSub, Nat.reduceAdd, List.replicate_succ, List.replicate_zero, List.cons_append, List.nil_append]
  rw [Rs_seq, Rs_ret]
  simp only [Rs_nil, R_call, R_cons, R_nil, R_Var, R_C, R_bin, R_cmp, R_tcmp, R_tOr, R_tAnd, R_tNot, R_tVal, R_tTrue, R_ite, R_eAnd, R_eOr, R_eNot, R_neg, R_tup, R_isi, R_some, Rc_some, N.v_eq, N.v_ne, N.v_lt, N.v_le, N.v_gt, N.v_ge, N.v_add, N.v_sub, N.v_iadd, N.v_xor, N.v_int, N.tru_b, N.pd_d, N.data_nil, N.data_cons, N.len_t, N.v_tupT, N.g_name, N.isNone_n, N.isNone_t, N.isNone_i, N.v_isN, N.v_isNn, N.v_eqB, N.v_neB, List.set_cons_succ, List.set_cons_zero, List.getElem?_cons_succ, List.getElem?_cons_zero, Bool.not_true, Bool.not_false, Bool.false_eq_true, Bool.true_eq_false, eq_self, true_implies, false_implies, true_and, and_true, decide_true, decide_false, Int.zero_add, N.R_sl, N.R_it, R_oNone, R_oSome, wipeN, N.R_lst, N.R_mkF, N.R_mkT, N.R_meth, N.v_addT, Ri_rng1, Ri_rng2, Ri_seq]
  cases x <;> simp [TyT.of, Z.isInt, Z.isBl, isN, R_retd, N.thn_nx, N.thn_rt, Rs_seq, Rs_set, Rs_ret, Rs_expr, Rs_nil, Rs_if, Rs_asg, Rs_aug, R_call, R_cons, R_nil, R_Var, R_C, R_bin, R_cmp, R_tcmp, R_tOr, R_tAnd, R_tNot, R_tVal, R_tTrue, R_ite, R_eAnd, R_eOr, R_eNot, R_neg, R_tup, R_isi, R_some, Rc_some, N.v_eq, N.v_ne, N.v_lt, N.v_le, N.v_gt, N.v_ge, N.v_add, N.v_sub, N.v_iadd, N.v_xor, N.v_int, N.tru_b, N.pd_d, N.data_nil, N.data_cons, N.len_t, N.v_tupT, N.g_name, N.isNone_n, N.isNone_t, N.isNone_i, N.v_isN, N.v_isNn, N.v_eqB, N.v_neB, List.set_cons_succ, List.set_cons_zero, List.getElem?_cons_succ, List.getElem?_cons_zero, Bool.not_true, Bool.not_false, Bool.false_eq_true, Bool.true_eq_false, eq_self, true_implies, false_implies, true_and, and_true, decide_true, decide_false, Int.zero_add, N.R_sl, N.R_it, R_oNone, R_oSome, wipeN, N.R_lst, N.R_mkF, N.R_mkT, N.R_meth, N.v_addT, Ri_rng1, Ri_rng2, Ri_seq, R_eCh, R_chK]
  rename_i i
  by_cases h : a ≤ i
  · simp [h]
    omega
  · simp [h]
theorem all_map {α : Type} {s : Sto} (f : α → Bool) (l : List α) : bAll s [.d (.list (l.map fun x => PyData.bool (f x)))] = some (.d (.bool (l.all f)), s) := by
  unfold bAll qL f1 asL
  simp only [List.map_map, bools_mapf]
  simp [Function.comp_def]
end N

namespace N
open PySem L2 PyProof.Rows

/-- .. bools too -/
def wd (B : Nat) : Nat → PyData → Prop
  | 0, _ => False
  | n + 1, .tuple xs => xs.length ≤ B ∧ ∀ x ∈ xs, wd B n x
  | _ + 1, .int _ => True
  | _ + 1, .str _ => True
  | _ + 1, .none => True
  | _ + 1, .bool _ => True
  | _ + 1, _ => False
theorem wd_up {B B' : Nat} (hN : B ≤ B') : ∀ {k k' : Nat} {x : PyData}, k ≤ k' → wd B k x → wd B' k' x
  | k + 1, k' + 1, .tuple xs, l, h => ⟨Nat.le_trans h.1 hN, fun x hx => wd_up hN (by omega) (h.2 x hx)⟩
  | k + 1, k' + 1, .int _, _, _ => trivial
  | k + 1, k' + 1, .str _, _, _ => trivial
  | k + 1, k' + 1, .none, _, _ => trivial
  | k + 1, k' + 1, .bool _, _, _ => trivial
  | k + 1, 0, _, l, _ => by omega
theorem cutD_len {α : Type} (xs : List α) (lo hi : Option Int) : (cutD xs lo hi).length ≤ xs.length := by
  unfold cutD
  rw [List.length_take, List.length_drop]
  omega
theorem R_rev (own : Bool) (m : ME) {e : Lo} {s : Sto} {Q : D → Sto → Prop} : R (eRev own m e s) Q ↔ R (m e s) fun d s1 => match d with
    | .d (.tuple xs) => Q (.d (.tuple xs.reverse)) s1
    | d => Rc (asL s1 d) fun ds => R (mkL own s1 ds.reverse) Q := by
  unfold eRev
  rcases m e s with _ | ⟨d, s1⟩
  · simp
  · rcases d with x | j
    · cases x <;> simp [asL]
    · simp only [R_some]
      rcases h : asL s1 (.r j) with _ | ds <;> simp
end N

namespace N
open PySem L2 PyProof.Rows

end N

namespace N
open PySem L2 PyProof.Rows

end N

namespace N
open PySem L2 PyProof.Rows
open Z (Ext dpUp dpsUp dpsLen dpsGet DxO KyD DEn)
/-- is True, is False -/
theorem op_isB {X : Cx} : OpR X (compareOp .Is) (fun x y H Q => ∃ c : Bool, y = .bl c ∧ Q (.bl (decide (x = .bl c))) H) := by
  intro pins s σ H x y v u Q I rx ry h
  obtain ⟨c, rfl, q⟩ := h
  cases ry
  cases x with
  | bl b => cases rx; exact is_bool (fin_bl I q (by cases b <;> cases c <;> rfl))
  | ty n => cases rx; exact wpAny_is_plain rfl (fin_bl I q rfl)
  | non => cases rx; exact wpAny_is_plain rfl (fin_bl I q rfl)
  | ref a => cases rx; exact wpAny_is_plain rfl (fin_bl I q rfl)
  | _ => obtain ⟨t, rfl⟩ := rx; exact wpAny_is_plain rfl (fin_bl I q rfl)
def isB (c : Bool) : D → Bool
  | .d (.bool b) => decide (b = c)
  | _ => false
def cIsB (neg : Bool) : FC := fun s a b => match b with
  | .d (.bool c) => some (if neg then !isB c a else isB c a)
  | _ => none
theorem isB_ok {B : Ba} {w : W} {v : V} {a : D} {c : Bool} (h : VR B w v a) : isB c a = decide (v = .bl c) := by
  cases a with
  | r j => obtain ⟨p, _, rfl⟩ := h; rfl
  | d x => cases h <;> first | rfl | simp [isB]
theorem c_isB {X : Cx} : CmpS X .Is (cIsB false) := fun s a b k e => by
  unfold cIsB at e
  split at e
  · cases e
    refine ⟨_, op_isB, fun u v w H Q g h1 h2 q => ?_⟩
    cases vr_bl h2
    exact ⟨_, rfl, q _ w H (W.le.refl w) g (by rw [isB_ok h1]; exact vb)⟩
  · cases e
section
variable {s : Sto}
@[simp] theorem v_isB (a : D) (c : Bool) : cIsB false s a (.d (.bool c)) = some (isB c a) := rfl
@[simp] theorem v_isnB (a : D) (c : Bool) : cIsB true s a (.d (.bool c)) = some (!isB c a) := rfl
@[simp] theorem isB_b (b c : Bool) : isB c (.d (.bool b)) = decide (b = c) := rfl
end
end N

namespace N
open PySem L2 PyProof.Rows
open Z (Ext dpUp dpsUp dpsLen dpsGet DxO KyD DEn Dfn)
def ddI : List Int → List Int
  | [] => []
  | a :: l => if a ∈ l then ddI l else a :: ddI l
theorem ddI_mem {x : Int} : ∀ {l : List Int}, x ∈ ddI l ↔ x ∈ l
  | [] => Iff.rfl
  | a :: l => by
    unfold ddI
    split
    · rename_i h
      rw [ddI_mem, List.mem_cons]
      exact ⟨.inr, fun k => k.elim (fun e => e ▸ h) id⟩
    · rw [List.mem_cons, List.mem_cons, ddI_mem]
theorem ddI_nd : ∀ l : List Int, (ddI l).Nodup
  | [] => List.nodup_nil
  | a :: l => by
    unfold ddI
    split
    · exact ddI_nd l
    · rename_i h
      exact List.nodup_cons.mpr ⟨fun k => h (ddI_mem.mp k), ddI_nd l⟩
def ascI (l : List Int) : List Int := (ddI l).mergeSort fun a b => decide (a ≤ b)
theorem ascI_mem {l : List Int} {x : Int} : x ∈ ascI l ↔ x ∈ l := by
  unfold ascI
  rw [List.mem_mergeSort]
  exact ddI_mem
theorem two_lt {l m : List Int} (h : l.Pairwise (· < ·)) (h' : m.Pairwise (· < ·)) (e : ∀ x, x ∈ l ↔ x ∈ m) : l = m :=
  List.Perm.eq_of_pairwise (le := fun a b : Int => a < b) (fun a b _ _ h1 h2 => by omega) h h' ((List.perm_ext_iff_of_nodup (h.imp fun {a b} hab => by omega) (h'.imp fun {a b} hab => by omega)).mpr e)
theorem ascI_lt (l : List Int) : (ascI l).Pairwise (· < ·) := by
  have h1 : (ascI l).Pairwise fun a b => decide (a ≤ b) = true := List.pairwise_mergeSort (le := fun a b : Int => decide (a ≤ b)) (fun a b c h1 h2 => by simp at h1 h2 ⊢; omega) (fun a b => by simp; omega) _
  have h2 : (ascI l).Nodup := (List.mergeSort_perm _ _).nodup_iff.mpr (ddI_nd _)
  refine (h1.and h2).imp fun {a b} h => ?_
  have := of_decide_eq_true h.1
  have := h.2
  omega

section
variable {P : Program} {w : World} {A : Around} {E : Value → Shared → Prop} {s : Shared}
open Z (set0)
theorem call_setLI {l : Addr} {its : Array Value} (ns : List Int) {Q : Value → Shared → Prop} (hh : A.handled = none) (hl : s.heap.IsList l its) (hit : IntsAre its.toList ns) (few : ns.length < 60)
    (fin : ∀ (h' : Heap) (tk c : Nat), SetR w h' s.heap.objs.size (fun j => decide (j ∈ ns)) c → c ≤ ns.length → (∀ b o, s.heap.get? b = some o → h'.get? b = some o) → Q (.ref s.heap.objs.size) { s with heap := h', toks := tk }) :
    wpAny (model P w) A (call (.type "set") [.ref l]) Q E s := by
  have sz : its.size = ns.length := by
    have := IntsAre.length hit
    simpa using this
  obtain ⟨c, tl, hmro⟩ := F.called_set.mro
  have hmade := F.called_set.made
  have hsub := F.called_set.sub
  refine wpAny_call (codeAny_of_tree ?_)
  show wpAny _ _ (callAny (.type "set") _) _ _ _
  refine wpAny_pure ⟨Code.quiet_builtin _ (by decide +kernel), codeAny_builtin F.entry_type_call ?_⟩
  rw [Around.under_plain (weight_type_call_type "set" [.ref l] []) rfl]
  have n1 := F.called_set.notType
  have n2 := F.called_set.canCreate
  have n3 := F.typeCall_set_1 (.ref l)
  repeat (any_goals (first | assumption | wp_step))
  refine codeAny_mono (code_set_led1 (.ref l) (E := E) (Q₁ := fun ob s1 => ob = .ref s.heap.objs.size ∧ s1 = { s with heap := s.heap.push (set0 w) }) ⟨rfl, rfl⟩) fun r s1 hr => ?_
  cases r with
  | error e => exact hr
  | ok fl =>
    cases fl with
    | ret ob =>
      obtain ⟨rfl, rfl⟩ := hr
      have at0 : (s.heap.push (set0 w)).get? s.heap.objs.size = some (set0 w) := Heap.get?_push_size _ rfl
      have ty : Shared.TypeIs { s with heap := s.heap.push (set0 w) } (.ref s.heap.objs.size) "set" := ⟨_, at0, rfl⟩
      have i1 := F.called_set.init.lookup
      have i2 := F.called_set.init.bind (.ref s.heap.objs.size)
      repeat (any_goals (first | assumption | wp_step))
      refine codeAny_mono (codeAny_call_builtin (R := wants (fun r s2 => r = .none ∧ ∃ h' tk c, s2 = { s with heap := h', toks := tk } ∧ SetR w h' s.heap.objs.size (fun j => decide (j ∈ ns)) c ∧ c ≤ ns.length ∧ ∀ b o, s.heap.get? b = some o → h'.get? b = some o) E)
        F.called_set.init.plain F.entry_set_init (check_set_init_1 ty ?_)) fun r2 s2 hr2 => ?_
      · obtain ⟨ol, o1, o2, nl, o3⟩ := hl
        obtain ⟨kc, kd, kt, ksl⟩ := ol
        simp only at o2 o3
        subst o2 o3
        have o4 : (s.heap.push (set0 w)).get? l = some { cls := .type "list", dict := kd, data := .seq its nl, slots := ksl } := Heap.get?_push_of_some _ o1
        have f1 := F.sub_list_set
        have f2 := F.sub_list_frozenset
        have f3 : (Value.type "list" == Value.type "dict") = false := by decide
        have l1 : (s.heap.push (set0 w)).IsList l its := ⟨_, o4, rfl, nl, rfl⟩
        unfold Builtin.«set.__init__» noKeywords Builtin.Frozenset.updateFrom
        generalize hPI : pyIter = PI
        wp_walk
        subst hPI
        refine wpAny_pyIter_list l1 ?_
        refine wpAny_bind (wpAny_runValue ?_)
        have ls : l < s.heap.objs.size := Heap.lt_size o1
        have h3 : A.in1.in1.in1.handled = none := by simp [hh]
        have s1 : (s.heap.push (set0 w)).objs.size = s.heap.objs.size + 1 := Heap.size_push ..
        have ne1 : l ≠ (s.heap.push (set0 w)).objs.size := by rw [s1]; exact Nat.ne_of_lt (Nat.lt_succ_of_lt ls)
        have ne2 : s.heap.objs.size ∉ [(s.heap.push (set0 w)).objs.size, l] := by
          rw [s1]
          simp only [List.mem_cons, List.not_mem_nil, or_false, not_or]
          exact ⟨Nat.ne_of_lt (Nat.lt_succ_self _), Nat.ne_of_gt ls⟩
        have val : ∀ (i : Nat) (v : Value), its[i]? = some v → ∃ k t, ns[i]? = some k ∧ v = .int k t := fun i v hv => by
          have lt : i < ns.length := by rw [← sz]; exact (Array.getElem?_eq_some_iff.mp hv).1
          obtain ⟨t, e⟩ := IntsAre.int_at hit i v (by rw [Array.getElem?_toList]; exact hv)
          refine ⟨ns[i], t, List.getElem?_eq_getElem lt, ?_⟩
          rw [e, List.getD_eq_getElem?_getD, List.getElem?_eq_getElem lt]
          rfl
        refine set_update_ints ((Walks.list h3 _ l ne1 its).toS) s.heap.objs.size ne2 ns sz (by unfold scanBound; omega) val (its.size - 0) 0 _ (by omega) (Nat.zero_le _)
          ⟨⟨_, Heap.get?_push_size _ rfl, rfl, rfl⟩, (l1.push _)⟩ ⟨0, Nat.le_refl _, setR_new_at (Heap.get?_push_of_some _ at0)⟩ ?ff
        case ff =>
          intro s' c' hm hc R1
          obtain ⟨h', g2, d', tk', os'⟩ := s'
          have eg : g2 = s.gens := hm.gens
          have ed : d' = s.drawn := hm.drawn
          have eo : os' = s.os := hm.os
          subst eg ed eo
          show wpAny _ _ _ _ _ _
          refine wpAny_pure ?_
          show wpAny _ _ (PySem.ret Value.none) _ _ _
          rw [sz] at hc
          refine wpAny_pure ⟨rfl, h', tk', c', rfl, R1, hc, fun b o e => ?_⟩
          have b0 : b < s.heap.objs.size := Heap.lt_size e
          refine hm.heap b o ?_ (Heap.get?_push_of_some _ (Heap.get?_push_of_some _ e))
          rw [s1]
          simp only [List.mem_cons, List.not_mem_nil, or_false, not_or]
          exact ⟨Nat.ne_of_lt b0, Nat.ne_of_lt (Nat.lt_succ_of_lt b0)⟩
      · cases r2 with
        | error e => exact hr2
        | ok fl2 =>
          cases fl2 with
          | ret r =>
            obtain ⟨rfl, h', tk, c, rfl, R1, hc, k⟩ := hr2
            repeat (any_goals (first | assumption | wp_step))
            exact fin _ _ _ R1 hc k
          | _ => exact hr2.elim
    | _ => exact hr.elim
end
section
variable {X : Cx} {e : Expr} {m : ME} {pos p p2 q : Pos}
def rSetI (K : PySem.W.Frag) (w : World) : List V → Hp → VK → Prop := fun vs H Q => ∃ (l : Addr) (ns : List Int), vs = [V.ref l] ∧ (SqT K H l (ns.map V.int) ∨ SqL K H l (ns.map V.int)) ∧ ns.length < 60 ∧ ∀ (b : Addr) (c : Nat), c ≤ ns.length → H b = none → Q (.ref b) (upd H b (SetO w b (fun j => decide (j ∈ ns)) c))
theorem cr_setI (hk : X.calm = true) : CallR X (.type "set") (rSetI X.K X.w) := by
  intro pins s σ H vs us Q I rr hh
  obtain ⟨l, ns, rfl, hq, few, fin⟩ := hh
  rw [Vals.ref1 rr]
  rcases hq with hq | hq
  · obtain ⟨its, rv, pt, _⟩ := I.tuple hq
    refine call_set_tupI ns (I.ok.hd hk) (show s.heap.IsTuple l its.toArray from pt) (ints_of_vals rv) (by unfold scanBound; omega) fun h2 tk c R1 hc k => ?_
    exact ⟨.ref _, upd H s.heap.objs.size (SetO X.w s.heap.objs.size (fun j => decide (j ∈ ns)) c), I.laid (t' := tk) k (Nat.le_refl _) (setO_new R1), rfl, fin _ c hc (I.hok.fresh (Nat.le_refl _))⟩
  · obtain ⟨its, rv, pl, _⟩ := I.list hq
    refine call_setLI ns (I.ok.hd hk) pl.isList (by simpa using ints_of_vals rv) few fun h2 tk c R1 hc k => ?_
    exact ⟨.ref _, upd H s.heap.objs.size (SetO X.w s.heap.objs.size (fun j => decide (j ∈ ns)) c), I.laid (t' := tk) k (Nat.le_refl _) (setO_new R1), rfl, fin _ c hc (I.hok.fresh (Nat.le_refl _))⟩
def eSrtSetI (own : Bool) (m : ME) : ME := fun e s => match m e s with
  | some (.d (.tuple xs), s1) => match intsOf (xs.map .d) with
    | some ns => if ns.length < 60 then mkL own s1 ((ascI ns).map fun i => .d (.int i)) else none
    | none => none
  | some (.d (.list xs), s1) => match intsOf (xs.map .d) with
    | some ns => if ns.length < 60 then mkL own s1 ((ascI ns).map fun i => .d (.int i)) else none
    | none => none
  | _ => none
theorem lst_ints {H : Hp} {w : W} {v : V} {xs : List PyData} {ns : List Int} {s : Sto} (G : Ok (ba X) w s H) (hv : VR (ba X) w v (.d (.list xs))) (e : intsOf (xs.map .d) = some ns) : ∃ a, v = .ref a ∧ SqL X.K H a (ns.map V.int) := by
  obtain ⟨lp, vs, rfl, hS, h2⟩ := asL_ok (s := s) (ds := xs.map .d) rfl G hv
  refine ⟨lp, rfl, ?_⟩
  have e2 := ints_eq e
  rw [e2] at h2
  have : ∀ (ns : List Int) (vs : List V), VRs (ba X) w vs (ns.map fun i => D.d (.int i)) → vs = ns.map V.int := fun ns => by
    induction ns with
    | nil =>
      intro vs h
      cases vs with
      | nil => rfl
      | cons v vs => exact h.elim
    | cons a ns ih =>
      intro vs h
      cases vs with
      | nil => exact h.elim
      | cons v vs =>
        have h1 : v = .int a := by
          have := h.1
          cases this
          rfl
        rw [List.map_cons, h1, ih vs h.2]
  rw [← this ns vs h2]
  exact hS
theorem n_srtSetI {own : Bool} (ha : NE X e m) (m1 : X.mg "sorted" = none) (m2 : X.mg "set" = none) (hk : X.calm = true := by rfl)
    (c1 : Z.Cl X "sorted" (.Call (.Name "set" p2) [e] [] q) [] pos := by exact ⟨rfl, rfl, rfl⟩) (c2 : Z.Cl X "set" e [] q := by exact ⟨rfl, rfl, rfl⟩) :
    NE X (.Call (.Name "sorted" p) [.Call (.Name "set" p2) [e] [] q] [] pos) (eSrtSetI own m) := fun el s d s' h => by
  have go : ∀ {y : PyData} {s1 : Sto} {ns : List Int}, m el s = some (.d y, s1) → ns.length < 60 → mkL own s1 ((ascI ns).map fun i => .d (.int i)) = some (d, s') → (∀ {v : V} {w : W} {H : Hp}, Ok (ba X) w s1 H → VR (ba X) w v (.d y) → ∃ l, v = .ref l ∧ (SqT X.K H l (ns.map V.int) ∨ SqL X.K H l (ns.map V.int))) →
      PE X (.Call (.Name "sorted" p) [.Call (.Name "set" p2) [e] [] q] [] pos) (tE (ba X) el s d s') := fun {y s1 ns} e1 few h hsq => by
    refine PE.imp (pe_callB (cr_sortedSet hk) c1.1 m1 (by decide +kernel) (pa_cons (pe_callTy (cr_setI hk) c2.1 m2 (by decide +kernel) (pa_cons (ha _ _ _ _ e1) pa_nil c2.2.1) (by decide) (by decide) c2.2.1 c2.2.2) pa_nil c1.2.1) (by decide) (by decide) c1.2.1 c1.2.2) fun σ H Q ⟨w, g, l, k⟩ => ?_
    refine ⟨w, g, l, fun u w1 H1 l1 g1 v1 => ?_⟩
    obtain ⟨lp, rfl, hS⟩ := hsq g1 v1
    refine ⟨lp, ns, rfl, hS, few, fun b c hc hb => ?_⟩
    have g2 := g1.ign (o := SetO X.w b (fun j => decide (j ∈ ns)) c) hb
    refine ⟨b, _, c, rfl, upd_same, by omega, fun os b2 h1 h2 h3 h4 => ?_⟩
    have eo : os = ascI ns := two_lt h1 (ascI_lt ns) fun x => by rw [h2, ascI_mem, decide_eq_true_eq]
    subst eo
    obtain ⟨w3, l3, g3, v3⟩ := mkL_ok (vs := (ascI ns).map V.int) h g2 h4 (by
      have : ∀ l : List Int, VRs (ba X) w1 (l.map V.int) (l.map fun i => D.d (.int i)) := fun l => by
        induction l with
        | nil => trivial
        | cons a l ih => exact ⟨vi, ih⟩
      exact this _)
    exact k _ w3 _ (l1.trans l3) g3 v3
  unfold eSrtSetI at h
  split at h
  · rename_i xs s1 e1
    split at h
    · rename_i ns e2
      split at h
      · rename_i few
        exact go e1 few h fun {v w H} g1 v1 => by
          obtain ⟨lp, h1, h2⟩ := tup_ints g1 v1 e2
          exact ⟨lp, h1, .inl h2⟩
      · cases h
    · cases h
  · rename_i xs s1 e1
    split at h
    · rename_i ns e2
      split at h
      · rename_i few
        exact go e1 few h fun {v w H} g1 v1 => by
          obtain ⟨lp, h1, h2⟩ := lst_ints g1 v1 e2
          exact ⟨lp, h1, .inr h2⟩
      · cases h
    · cases h
  · cases h
end

section
variable {P : Program} {w : World} {A : Around} {E : Value → Shared → Prop} {s : Shared}
end
section
variable {X : Cx} {a b c : Expr} {ta tb tc : TE} {pos p : Pos}
variable {x y : Str} {pa pb pc pd px py : Pos} {ja jb : Nat}
end
end N

namespace N
open PySem L2 PyProof.Rows

def mis (l : List Nat) : Bool := if l.all (fun a => decide (a < 2)) = true then decide (l.sum % 2 = 1) else decide (xr l = 0)
def asc3 (x : Nat) : List Nat := if x < 2 then [0, 1] else [0, 1, x]
def put (hs : List Nat) (i k : Nat) : List Nat := hs.take i ++ [k] ++ hs.drop (i + 1)
/-- the sizes that may be left of the heap i by a move that wins -/
def good (hs : List Nat) (i : Nat) : List Nat := (asc3 (hs.getD i 0 ^^^ xr hs)).filter fun k => decide (k < hs.getD i 0) && mis (put hs i k)
end N

namespace N
open PySem L2 PyProof.Rows

end N

namespace N
open PySem L2 PyProof.Rows

end N

namespace N
open PySem L2 PyProof.Rows
open Z (Ext dpUp dpsUp dpsLen dpsGet DxO KyD DEn Cl cut offv bl Dfn)

structure PrE where
  T : Addr
  b : Addr
  k : PyData
  v : V
def EntOk : List PrE → List DEn → Prop
  | [], [] => True
  | p :: ps, x :: xs => (x.1 = p.k ∧ x.2.1 = p.b ∧ RelV p.v x.2.2) ∧ EntOk ps xs
  | _, _ => False
theorem EntOk.len : ∀ {ps : List PrE} {xs : List DEn}, EntOk ps xs → xs.length = ps.length
  | [], [], _ => rfl
  | _ :: _, _ :: _, ⟨_, h⟩ => by rw [List.length_cons, List.length_cons, EntOk.len h]
  | [], _ :: _, h => h.elim
  | _ :: _, [], h => h.elim
theorem EntOk.mem : ∀ {ps : List PrE} {xs : List DEn}, EntOk ps xs → ∀ x ∈ xs, ∃ p ∈ ps, x.1 = p.k ∧ x.2.1 = p.b ∧ RelV p.v x.2.2
  | [], [], _, x, h => by cases h
  | p :: _, _ :: _, ⟨h1, h⟩, x, hx => by
    rcases List.mem_cons.mp hx with rfl | hx
    · exact ⟨p, List.mem_cons_self, h1⟩
    · obtain ⟨q, hq, r⟩ := EntOk.mem h x hx
      exact ⟨q, List.mem_cons_of_mem _ hq, r⟩
  | [], _ :: _, h, _, _ => h.elim
  | _ :: _, [], h, _, _ => h.elim
section
variable {X : Cx} {pins : List (Addr × Obj)} {σ : L2.St} {H : Hp} {s : Shared}
end

section
variable {X : Cx} {B : Ba} {w : W} {H : Hp}
def PrOk (B : Ba) (w : W) : List PrE → List (PyData × PyData) → Prop
  | [], [] => True
  | p :: ps, k :: ks => (p.k = k.1 ∧ SqT B.K w.F p.T [V.ref p.b, p.v] ∧ KyD B.K w.F p.b p.k ∧ VR B w p.v (.d k.2)) ∧ PrOk B w ps ks
  | _, _ => False
theorem PrOk.mem : ∀ {ps : List PrE} {ks : List (PyData × PyData)}, PrOk B w ps ks → ∀ p ∈ ps, SqT B.K w.F p.T [V.ref p.b, p.v] ∧ KyD B.K w.F p.b p.k
  | [], [], _, p, h => by cases h
  | q :: _, _ :: _, ⟨h1, h⟩, p, hp => by
    rcases List.mem_cons.mp hp with rfl | hp
    · exact ⟨h1.2.1, h1.2.2.1⟩
    · exact PrOk.mem h p hp
  | [], _ :: _, h, _, _ => h.elim
  | _ :: _, [], h, _, _ => h.elim
end

section
variable {X : Cx} {pins : List (Addr × Obj)} {σ : L2.St} {H : Hp} {s : Shared}
end
theorem KR.keys {B : Ba} {w : W} : ∀ {xs : List (Key × V)} {kvs : List (Key × D)}, KR B w xs kvs → xs.map (·.1) = kvs.map (·.1)
  | [], [], _ => rfl
  | e :: xs, kv :: kvs, ⟨h1, h2⟩ => by rw [List.map_cons, List.map_cons, h1.1, KR.keys h2]
  | [], _ :: _, h => h.elim
  | _ :: _, [], h => h.elim
section
variable {X : Cx}
end

section
variable {X : Cx} {pins : List (Addr × Obj)} {σ : L2.St} {H : Hp} {s : Shared}
end
section
variable {X : Cx} {B : Ba} {w : W} {H : Hp}
variable {ex a : Expr} {es : List Expr} {ma me : ME} {pos : Pos}
end
end N

namespace N
open PySem L2 PyProof.Rows
open Z (Ext dpUp dpsUp dpsLen dpsGet DxO KyD DEn Cl cut offv bl Dfn)

section
variable {X : Cx} {pins : List (Addr × Obj)} {σ : L2.St} {H : Hp} {s : Shared}
end

section
variable {K : PySem.W.Frag} {F : Hp} {a : Addr} {o : Obj} {φ : Heap → Prop}
end
section
variable {B : Ba} {w : W} {s : Sto} {H : Hp} {a : Addr} {o : Obj} {φ : Heap → Prop}
end
section
variable {X : Cx} {ex a b c tg iter elt : Expr} {es ifs elts : List Expr} {st : Stmt} {body : List Stmt} {m ma mb : ME} {M : MS} {pos p : Pos}
end
end N

namespace Z
open PySem L2 PyProof.Rows

section
variable {P : Program} {w : World} {A : Around} {E : Value → Shared → Prop} {s : Shared}
end
section
variable {X : Cx} {pins : List (Addr × Obj)} {σ : L2.St} {H : Hp} {s : Shared}
end
end Z
namespace N
open PySem L2 PyProof.Rows
open Z (Ext dpUp dpsUp dpsLen dpsGet DxO KyD DEn Cl cut offv bl Dfn)
section
variable {X : Cx} {ex a b c tg iter tg1 iter1 elt e : Expr} {es : List Expr} {m ma mb mc : ME} {pos p q p2 tpos : Pos}
end

section
variable {X : Cx} {tg : Expr}
variable {a b : Expr} {ms : MA} {p pos : Pos}
end
end N

namespace N
open PySem L2 PyProof.Rows
open Z (Ext dpUp dpsUp dpsLen dpsGet DxO KyD DEn Cl cut offv bl Dfn)

abbrev MPP := Lo → Sto → Option (List (Key × D) × Sto)
section
variable {X : Cx} {pos : Pos} {keys : List (Option Expr)} {values : List Expr} {k v : Expr} {m mv : ME} {mr : MPP}
end
end N

namespace N
open PySem L2 PyProof.Rows
open Z (Ext dpUp dpsUp dpsLen dpsGet DxO KyD DEn Cl cut offv bl Dfn)

section
variable {X : Cx} {pins : List (Addr × Obj)} {σ : L2.St} {H : Hp} {s : Shared}
end
end N

namespace N
open PySem L2 PyProof.Rows

def Gk (K : PySem.W.Frag) (mg : Str → Option Value) (x : Str) (y : PyData) : Prop := ∃ v u, mg x = some u ∧ RelV v u ∧ ∀ F : Hp, Dp K F v y
section
variable {X : Cx} {pos : Pos}
theorem n_globK {x : Str} {y : PyData} (hm : Gk X.K X.mg x y) (hg : Gl X x := by rfl) (hd : (x == ("__debug__" : Str)) = false := by decide) : NE X (.Name x pos) (eC y) := fun e s d s' h => by
  cases h
  obtain ⟨v, u, h1, h2, h3⟩ := hm
  exact PE.imp (pe_glob hg h1 h2 hd) fun σ H Q ⟨w, g, l, q⟩ => q _ w H (W.le.refl w) g (h3 w.F)
end
def flV : Value → Option (V × PyData)
  | .none => some (.non, .none)
  | .bool b => some (.bl b, .bool b)
  | .int i _ => some (.int i, .int i)
  | .str x _ => some (.str x, .str x)
  | _ => none
def flVs : List Value → Option (List V × List PyData)
  | [] => some ([], [])
  | u :: us => match flV u, flVs us with
    | some (v, d), some (vs, ds) => some (v :: vs, d :: ds)
    | _, _ => none
theorem flV_ok {u : Value} {v : V} {d : PyData} (h : flV u = some (v, d)) : RelV v u ∧ ∀ (K : PySem.W.Frag) (F : Hp), Dp K F v d := by
  cases u <;> simp [flV] at h <;> obtain ⟨rfl, rfl⟩ := h
  · exact ⟨rfl, fun _ _ => .non⟩
  · exact ⟨rfl, fun _ _ => .bl _⟩
  · exact ⟨⟨_, rfl⟩, fun _ _ => .int _⟩
  · exact ⟨⟨_, rfl⟩, fun _ _ => .str _⟩
theorem flVs_ok : ∀ {us : List Value} {vs : List V} {ds : List PyData}, flVs us = some (vs, ds) → Vals vs us ∧ ∀ (K : PySem.W.Frag) (F : Hp), DpAll K F vs ds
  | [], _, _, h => by
    cases h
    exact ⟨.nil, fun _ _ => .nil⟩
  | u :: us, vs, ds, h => by
    unfold flVs at h
    split at h
    · rename_i v d vs' ds' h1 h2
      cases h
      have a := flV_ok h1
      have b := flVs_ok h2
      exact ⟨.cons a.1 b.1, fun K F => .cons (a.2 K F) (b.2 K F)⟩
    · cases h
theorem gk_tup {K : PySem.W.Frag} {mg : Str → Option Value} {h : Heap} {n : Str} {a : Addr} {od : Option Addr} {its : Array Value} {m : Nat} {sl : Array (Option Value)} {vs : List V} {ds : List PyData} (X : K.In h) (G : h.Ns PySem.mainGlobals mg) (e : PySem.W.nsIn K PySem.mainGlobals n = some (some (.ref a))) (l : K.lookup a = some ⟨.type "tuple", od, .seq its m, sl⟩) (f : flVs its.toList = some (vs, ds)) (z : its.size ≤ sizeLine) : Gk K mg n (.tuple ds) :=
  ⟨.ref a, .ref a, PySem.W.mg_of X G e, rfl, fun F => .tup (.inr ⟨_, its, m, l, rfl, rfl, z, (flVs_ok f).1⟩) ((flVs_ok f).2 K F)⟩
end N

namespace N
open PySem L2 PyProof.Rows

noncomputable def sd (M : List (List Nat)) : List PyData := Z.srt (Z.dd (M.map tup))
theorem srt_sd {L M : List (List Nat)} (nd : L.Nodup) (h : ∀ r, r ∈ L ↔ r ∈ M) : Z.srt (L.map tup) = sd M := by
  unfold sd
  refine Z.srt_eq (srtOk_tup L).al ((List.perm_ext_iff_of_nodup ?_ (dd_nodup _)).mpr fun x => ?_)
  · exact List.Pairwise.map tup (fun a b h e => h (tup_inj e)) nd
  · rw [Z.dd_mem, List.mem_map, List.mem_map]
    constructor
    · rintro ⟨r, h1, rfl⟩; exact ⟨r, (h r).mp h1, rfl⟩
    · rintro ⟨r, h1, rfl⟩; exact ⟨r, (h r).mpr h1, rfl⟩
theorem tup_map_inj {a b : List (List Nat)} (h : a.map tup = b.map tup) : a = b := by
  induction a generalizing b with
  | nil => cases b with
    | nil => rfl
    | cons y b => cases h
  | cons x a ih => cases b with
    | nil => cases h
    | cons y b =>
      rw [List.map_cons, List.map_cons] at h
      injection h with h1 h2
      rw [tup_inj h1, ih h2]
theorem sd_eq {L M : List (List Nat)} (nd : L.Nodup) (h : ∀ r, r ∈ L ↔ r ∈ M) : sd L = sd M := (srt_sd nd fun _ => Iff.rfl).symm.trans (srt_sd nd h)
/-- a row of rows in order, each once -/
structure Canon (H : List (List Nat)) : Prop where
  nd : H.Nodup
  so : sd H = H.map tup
theorem Canon.eq {A B : List (List Nat)} (a : Canon A) (b : Canon B) (h : ∀ r, r ∈ A ↔ r ∈ B) : A = B := tup_map_inj (by rw [← a.so, ← b.so, sd_eq a.nd h])
section
variable {α : Type} [DecidableEq α] (kf : α → PyData) (vf : α → D)
def DG (M : List α) : List (PyData × D) := M.map fun a => (kf a, vf a)
variable {kf vf}
theorem has_DG (inj : ∀ a b, kf a = kf b → a = b) (M : List α) (a : α) : dHas (DG kf vf M) (kf a) = decide (a ∈ M) := by
  rw [Bool.eq_iff_iff, decide_eq_true_eq]
  unfold dHas DG
  simp only [List.any_map, List.any_eq_true, Function.comp, decide_eq_true_eq]
  exact ⟨fun ⟨x, h1, h2⟩ => inj _ _ h2 ▸ h1, fun h1 => ⟨a, h1, rfl⟩⟩
theorem get_DG (inj : ∀ a b, kf a = kf b → a = b) {M : List α} {a : α} (hm : a ∈ M) : dGet (DG kf vf M) (kf a) = some (vf a) := by
  unfold dGet DG
  induction M with
  | nil => cases hm
  | cons x M ih =>
    rw [List.map_cons, List.find?_cons]
    by_cases e : x = a
    · subst e
      simp
    · have : decide (kf x = kf a) = false := decide_eq_false fun h => e (inj _ _ h)
      simp only [this]
      exact ih (by
        rcases List.mem_cons.mp hm with r | r
        · exact (e r.symm).elim
        · exact r)
theorem put_DG (inj : ∀ a b, kf a = kf b → a = b) (M : List α) (a : α) : dPut (DG kf vf M) (kf a) (vf a) = DG kf vf (if a ∈ M then M else M ++ [a]) := by
  unfold dPut
  rw [has_DG inj]
  by_cases hm : a ∈ M
  · rw [if_pos hm, decide_eq_true hm, if_pos rfl]
    unfold DG
    rw [List.map_map]
    refine List.map_congr_left fun x hx => ?_
    simp only [Function.comp]
    split
    · rename_i e
      rw [inj _ _ e]
    · rfl
  · rw [if_neg hm, decide_eq_false hm, if_neg (by simp)]
    unfold DG
    rw [List.map_append]
    rfl
end
section
variable {α : Type} [DecidableEq α] (g : α → Nat)
variable {g}
/-- the rank of a set: a later place counts for more -/
def rk (L H : List α) : Nat := match L with
  | [] => 0
  | c :: L => (if c ∈ H then 1 else 0) + 2 * rk L H
end
def KS (ns : List Nat) (kvs : List (Key × D)) : Prop := (∀ k : Nat, kHas kvs (.inl (k : Int)) = decide (k ∈ ns)) ∧ kvs.length ≤ ns.length
theorem KS.nil : KS [] [] := ⟨fun k => by simp [kHas], by simp⟩
theorem KS.put {ns : List Nat} {kvs : List (Key × D)} (h : KS ns kvs) (v : Nat) (d : D) : KS (ns ++ [v]) (kPut kvs (.inl (v : Int)) d) := by
  refine ⟨fun k => ?_, ?_⟩
  · rw [Bool.eq_iff_iff, kHas_put, h.1, decide_eq_true_eq, decide_eq_true_eq, List.mem_append, List.mem_singleton]
    constructor
    · rintro (e | e)
      · right
        simp at e
        omega
      · exact .inl e
    · rintro (e | e)
      · exact .inr e
      · exact .inl (by rw [e])
  · have := @kPut_len kvs (.inl (v : Int)) d
    have := h.2
    rw [List.length_append]
    simp
    omega
theorem DG_below {α : Type} (kf : α → PyData) (f : α → PyData) (M : List α) (n : Nat) : (Cell.dic (DG kf (fun a => .d (f a)) M)).below n := fun k j h => by
  obtain ⟨x, _, e⟩ := List.mem_map.mp h
  simp at e
end N

namespace N
open PySem L2 PyProof.Rows
open Z (Ext dpUp dpsUp dpsLen dpsGet DxO KyD DEn Cl cut offv bl Dfn)

section
variable {X : Cx} {tg ex : Expr} {m : ME}
end
section
variable {X : Cx} {ex : Expr} {ms : MA} {p pos apos : Pos}
end
def rgI (a b : Int) : List PyData := (List.range (b - a).toNat).map fun i => .int (a + (i : Nat))
theorem dps_rg {K : PySem.W.Frag} {F : Hp} {a b : Int} : DpAll K F (rgV a b) (rgI a b) := by
  unfold rgV rgI
  generalize List.range (b - a).toNat = l
  induction l with
  | nil => exact .nil
  | cons x l ih => exact .cons (.int _) ih
section
variable {X : Cx} {a b : Expr} {ma mb : ME} {p pos p2 pos2 : Pos}
end
section
variable {X : Cx} {tg a b c : Expr} {ms : MA} {p pos : Pos}
end
end N

namespace N
open PySem L2 PyProof.Rows

theorem lc2L_pure {α β : Type} {enc : α → D} {enc2 : β → D} {l2 : α → List β} (f : α → β → PyData) {k : Nat} {g : MG} {mi1 : MI} {g1 : MG} {el : ME} {vs1 : List Nat} {e0 : Lo} {s : Sto} (hk : k = s.length) : ∀ (l : List α) (acc : List D),
    (∀ x ∈ l, ∀ acc, ∃ e1, g (enc x) e0 = some e1 ∧ mi1 e1 (s ++ [.lst acc]) = some ((l2 x).map enc2, none, s ++ [.lst acc]) ∧ ∀ y ∈ l2 x, ∀ acc, ∃ e2, g1 (enc2 y) (wipeN e1 vs1) = some e2 ∧ el e2 (s ++ [.lst acc]) = some (.d (f x y), s ++ [.lst acc])) →
    acc.length + (l.flatMap l2).length ≤ lim → lc2L k none g tTrue mi1 g1 tTrue el vs1 e0 (l.map enc) (s ++ [.lst acc]) = some (s ++ [.lst (acc ++ (l.flatMap fun x => (l2 x).map (f x)).map D.d)])
  | [], acc, h, hl => by
    rw [List.map_nil]
    unfold lc2L
    rw [if_pos (ck_none _)]
    simp
  | x :: l, acc, h, hl => by
    obtain ⟨e1, h1, h2, h3⟩ := h x List.mem_cons_self acc
    rw [List.map_cons]
    unfold lc2L
    rw [if_pos (ck_none _)]
    rw [List.flatMap_cons, List.length_append] at hl
    have h4 := lcL_pure (k := k) (g := g1) (mt := tTrue) (el := el) (e0 := wipeN e1 vs1) (enc := enc2) (fun y => D.d (f x y)) (fun _ => true) (s := s) hk (fun _ => ck_none _) (l2 x) acc (fun y hy acc => by
      obtain ⟨e2, h5, h6⟩ := h3 y hy acc
      exact ⟨e2, h5, rfl, fun _ => h6⟩) (by omega)
    rw [List.filter_eq_self.mpr (fun _ _ => rfl)] at h4
    simp only [h1, tTrue, h2]
    rw [h4]
    simp only []
    have := lc2L_pure (enc := enc) (enc2 := enc2) (l2 := l2) f (k := k) (g := g) (mi1 := mi1) (g1 := g1) (el := el) (vs1 := vs1) (e0 := e0) (s := s) hk l (acc ++ (l2 x).map fun y => D.d (f x y)) (fun y hy acc => h y (List.mem_cons_of_mem _ hy) acc) (by rw [List.length_append, List.length_map]; omega)
    rw [this]
    simp [Function.comp_def]
theorem R_lc2m {α β : Type} (l : List α) (enc : α → D) (l2 : α → List β) (enc2 : β → D) (f : α → β → PyData) {vs vs1 : List Nat} {mi mi1 : MI} {g g1 : MG} {el : ME} {e : Lo} {s : Sto} {Q : D → Sto → Prop} (hi : Ri (mi e s) fun items ck s1 => items = l.map enc ∧ ck = none ∧ s1 = s)
    (h : ∀ x ∈ l, ∀ acc, Rc (g (enc x) (wipeN e vs)) fun e1 => Ri (mi1 e1 (s ++ [.lst acc])) (fun items ck s2 => items = (l2 x).map enc2 ∧ ck = none ∧ s2 = s ++ [.lst acc]) ∧ ∀ y ∈ l2 x, ∀ acc, Rc (g1 (enc2 y) (wipeN e1 vs1)) fun e2 => R (el e2 (s ++ [.lst acc])) fun d s3 => d = .d (f x y) ∧ s3 = s ++ [.lst acc])
    (hl : (l.flatMap l2).length ≤ lim) (q : Q (.d (.list (l.flatMap fun x => (l2 x).map (f x)))) s) : R (eLc2 false vs vs1 mi g tTrue mi1 g1 tTrue el e s) Q := by
  obtain ⟨_, _, _, h1, rfl, rfl, rfl⟩ := hi
  refine R.of (x := .d (.list (l.flatMap fun x => (l2 x).map (f x)))) ?_ q
  unfold eLc2
  simp only [h1]
  rename_i s1
  rw [lc2L_pure (l2 := l2) (enc := enc) (enc2 := enc2) f (s := s1) rfl l [] (fun x hx acc => by
    obtain ⟨e1, a1, a2, a3⟩ := h x hx acc
    obtain ⟨_, _, _, a4, rfl, rfl, rfl⟩ := a2
    refine ⟨e1, a1, a4, fun y hy acc => ?_⟩
    obtain ⟨e2, b1, d, s3, b2, rfl, rfl⟩ := a3 y hy acc
    exact ⟨e2, b1, b2⟩) (by simpa using hl)]
  simp only [List.nil_append]
  exact lcFin_d _ _
end N

namespace N
open PySem L2 PyProof.Rows

def evR : Option Nat → Bool
  | some t => decide (t % 2 = 0)
  | none => false
def odR : Option Nat → Bool
  | some t => decide (t % 2 = 1)
  | none => false
section
variable (mv : Bool → Nat → List Nat)
def wonB (f : Bool → Nat → Option Nat) (w : Bool) (i : Nat) : Bool := (mv w i).any fun j => evR (f (!w) j)
def lostB (f : Bool → Nat → Option Nat) (w : Bool) (i : Nat) : Bool := (mv w i).all fun j => odR (f (!w) j)
def dueB (f : Bool → Nat → Option Nat) (w : Bool) (i : Nat) : Bool := wonB mv f w i || lostB mv f w i
def stg : Nat → Bool → Nat → Option Nat
  | 0 => fun _ _ => none
  | r + 1 => fun w i => match stg r w i with
    | some t => some t
    | none => if dueB mv (stg r) w i then some r else none
end
section
variable {mv : Bool → Nat → List Nat}
theorem stg_succ {r : Nat} {w : Bool} {i : Nat} : stg mv (r + 1) w i = match stg mv r w i with
    | some t => some t
    | none => if dueB mv (stg mv r) w i then some r else none := rfl
theorem stg_some {r : Nat} {w : Bool} {i t : Nat} (h : stg mv r w i = some t) : stg mv (r + 1) w i = some t := by
  rw [stg_succ, h]
theorem stg_mono {r r' : Nat} (hr : r ≤ r') {w : Bool} {i t : Nat} (h : stg mv r w i = some t) : stg mv r' w i = some t := by
  induction r' with
  | zero => rwa [show r = 0 by omega] at h
  | succ r' ih =>
    by_cases e : r = r' + 1
    · rwa [← e]
    · exact stg_some (ih (by omega))
theorem stg_lt {r : Nat} {w : Bool} {i t : Nat} (h : stg mv r w i = some t) : t < r ∧ stg mv t w i = none ∧ dueB mv (stg mv t) w i = true ∧ stg mv (t + 1) w i = some t := by
  induction r with
  | zero => cases h
  | succ r ih =>
    cases e : stg mv r w i with
    | some t' =>
      have h2 := stg_some e
      rw [h] at h2
      cases h2
      obtain ⟨a, b⟩ := ih e
      exact ⟨by omega, b⟩
    | none =>
      have h2 := h
      rw [stg_succ, e] at h2
      simp only at h2
      split at h2
      · rename_i hd
        cases h2
        exact ⟨by omega, e, hd, h⟩
      · cases h2
theorem no_new {r r' : Nat} {w : Bool} {i : Nat} (h : stg mv r w i = none) (hr : r' < r) : dueB mv (stg mv r') w i = false := by
  cases hd : dueB mv (stg mv r') w i with
  | false => rfl
  | true =>
    exfalso
    cases e : stg mv r' w i with
    | some t => rw [stg_mono (by omega) e] at h; cases h
    | none =>
      have : stg mv (r' + 1) w i = some r' := by
        rw [stg_succ, e]
        simp only [hd, if_true]
      rw [stg_mono (show r' + 1 ≤ r by omega) this] at h
      cases h
theorem won_at {r : Nat} {w : Bool} {i : Nat} (h : stg mv r w i = none) (hw : wonB mv (stg mv r) w i = true) : r % 2 = 1 ∧ ∃ j ∈ mv w i, stg mv r (!w) j = some (r - 1) := by
  unfold wonB at hw
  obtain ⟨j, hj, he⟩ := List.any_eq_true.mp hw
  cases e : stg mv r (!w) j with
  | none => rw [e] at he; cases he
  | some t =>
    rw [e] at he
    have he : t % 2 = 0 := of_decide_eq_true he
    obtain ⟨h1, _, _, h4⟩ := stg_lt e
    have ht : t + 1 = r := by
      rcases Nat.lt_or_ge (t + 1) r with h5 | h5
      · have := no_new h h5
        have hx : dueB mv (stg mv (t + 1)) w i = true := by
          unfold dueB wonB
          rw [Bool.or_eq_true]
          refine .inl (List.any_eq_true.mpr ⟨j, hj, ?_⟩)
          rw [h4]
          exact decide_eq_true he
        rw [this] at hx
        cases hx
      · omega
    exact ⟨by omega, j, hj, by rw [e]; congr 1; omega⟩
theorem lost_at {r : Nat} {w : Bool} {i : Nat} (h : stg mv r w i = none) (hl : lostB mv (stg mv r) w i = true) : r % 2 = 0 ∧ (r = 0 ∨ ∃ j ∈ mv w i, stg mv r (!w) j = some (r - 1)) := by
  have hall : ∀ j ∈ mv w i, ∃ t, stg mv r (!w) j = some t ∧ t % 2 = 1 := fun j hj => by
    have := List.all_eq_true.mp hl j hj
    cases e : stg mv r (!w) j with
    | none => rw [e] at this; cases this
    | some t => rw [e] at this; exact ⟨t, rfl, of_decide_eq_true this⟩
  rcases Nat.eq_zero_or_pos r with rfl | h0
  · exact ⟨rfl, .inl rfl⟩
  · have : ∃ j ∈ mv w i, stg mv r (!w) j = some (r - 1) := by
      refine Classical.byContradiction fun hne => ?_
      have hd := no_new h (show r - 1 < r by omega)
      have hx : dueB mv (stg mv (r - 1)) w i = true := by
        unfold dueB lostB
        rw [Bool.or_eq_true]
        refine .inr (List.all_eq_true.mpr fun j hj => ?_)
        obtain ⟨t, e, ht⟩ := hall j hj
        obtain ⟨h1, _, _, h4⟩ := stg_lt e
        have : t ≠ r - 1 := fun e2 => hne ⟨j, hj, e2 ▸ e⟩
        rw [stg_mono (show t + 1 ≤ r - 1 by omega) h4]
        exact decide_eq_true ht
      rw [hd] at hx
      cases hx
    obtain ⟨j, hj, e⟩ := this
    obtain ⟨t, e2, ht⟩ := hall j hj
    rw [e] at e2
    cases e2
    exact ⟨by omega, .inr ⟨j, hj, e⟩⟩
/-- as the program looks for it -/
theorem due_odd {r : Nat} {w : Bool} {i : Nat} (h : stg mv r w i = none) (hr : r % 2 = 1) : dueB mv (stg mv r) w i = decide (∃ j ∈ mv w i, stg mv r (!w) j = some (r - 1)) := by
  rw [Bool.eq_iff_iff, decide_eq_true_eq]
  unfold dueB
  rw [Bool.or_eq_true]
  constructor
  · rintro (hw | hl)
    · exact (won_at h hw).2
    · have := (lost_at h hl).1
      omega
  · rintro ⟨j, hj, e⟩
    refine .inl (List.any_eq_true.mpr ⟨j, hj, ?_⟩)
    rw [e]
    exact decide_eq_true (by omega)
theorem due_even {r : Nat} {w : Bool} {i : Nat} (h : stg mv r w i = none) (hr : r % 2 = 0) : dueB mv (stg mv r) w i = lostB mv (stg mv r) w i := by
  unfold dueB
  cases hw : wonB mv (stg mv r) w i with
  | false => rfl
  | true =>
    have := (won_at h hw).1
    omega
def ptsB (n : Nat) : List (Bool × Nat) := (List.range n).map (fun i => (true, i)) ++ (List.range n).map fun i => (false, i)
theorem mem_ptsB {n : Nat} {p : Bool × Nat} : p ∈ ptsB n ↔ p.2 < n := by
  obtain ⟨w, i⟩ := p
  unfold ptsB
  cases w <;> simp
theorem len_ptsB (n : Nat) : (ptsB n).length = 2 * n := by
  unfold ptsB
  simp
  omega
theorem flt_le {α : Type} {P Q : α → Bool} (h : ∀ q, P q = true → Q q = true) : ∀ E : List α, (E.filter P).length ≤ (E.filter Q).length
  | [] => Nat.le_refl _
  | a :: E => by
    have := flt_le h E
    rw [List.filter_cons, List.filter_cons]
    cases hp : P a with
    | true => rw [if_pos rfl, if_pos (h a hp)]; simp; omega
    | false =>
      rw [if_neg Bool.false_ne_true]
      split
      · simp; omega
      · exact this
theorem flt_lt {α : Type} {P Q : α → Bool} (h : ∀ q, P q = true → Q q = true) : ∀ {E : List α} {p : α}, p ∈ E → P p = false → Q p = true → (E.filter P).length + 1 ≤ (E.filter Q).length
  | a :: E, p, hp, h1, h2 => by
    rw [List.filter_cons, List.filter_cons]
    rcases List.mem_cons.mp hp with rfl | hp
    · have := flt_le h E
      rw [if_neg (by rw [h1]; exact Bool.false_ne_true), if_pos h2]
      simp
      omega
    · have := flt_lt h hp h1 h2
      cases hpa : P a with
      | true => rw [if_pos rfl, if_pos (h a hpa)]; simp; omega
      | false =>
        rw [if_neg Bool.false_ne_true]
        split
        · simp; omega
        · exact this
structure MvOk (n : Nat) (mv : Bool → Nat → List Nat) : Prop where
  lt : ∀ w i, i < n → ∀ j ∈ mv w i, j < n
def StB (n : Nat) (mv : Bool → Nat → List Nat) (r : Nat) : Prop := ∀ w i, i < n → stg mv (r + 1) w i = stg mv r w i
theorem any_congr {α : Type} {l : List α} {f g : α → Bool} (h : ∀ x ∈ l, f x = g x) : l.any f = l.any g := by
  induction l with
  | nil => rfl
  | cons a l ih =>
    rw [List.any_cons, List.any_cons, h a List.mem_cons_self, ih fun x hx => h x (List.mem_cons_of_mem _ hx)]
theorem all_congr {α : Type} {l : List α} {f g : α → Bool} (h : ∀ x ∈ l, f x = g x) : l.all f = l.all g := by
  induction l with
  | nil => rfl
  | cons a l ih =>
    rw [List.all_cons, List.all_cons, h a List.mem_cons_self, ih fun x hx => h x (List.mem_cons_of_mem _ hx)]
theorem due_congr {n : Nat} (ok : MvOk n mv) {f g : Bool → Nat → Option Nat} (h : ∀ w i, i < n → f w i = g w i) {w : Bool} {i : Nat} (hi : i < n) : dueB mv f w i = dueB mv g w i := by
  unfold dueB wonB lostB
  rw [any_congr fun j hj => by rw [h _ j (ok.lt w i hi j hj)], all_congr fun j hj => by rw [h _ j (ok.lt w i hi j hj)]]
theorem StB.next {n r : Nat} (ok : MvOk n mv) (h : StB n mv r) : StB n mv (r + 1) := fun w i hi => by
  have e := h w i hi
  cases hs : stg mv r w i with
  | some t =>
    rw [hs] at e
    rw [e]
    exact stg_some e
  | none =>
    rw [hs] at e
    have hd : dueB mv (stg mv r) w i = false := by
      cases hd : dueB mv (stg mv r) w i with
      | false => rfl
      | true =>
        rw [stg_succ, hs] at e
        simp only [hd, if_true] at e
        cases e
    rw [e, stg_succ, e]
    simp only [due_congr ok h hi, hd]
    rfl
theorem StB.up {n r r' : Nat} (ok : MvOk n mv) (h : StB n mv r) (hr : r ≤ r') : ∀ w i, i < n → stg mv r' w i = stg mv r w i := by
  have all : ∀ k, StB n mv (r + k) := fun k => by
    induction k with
    | zero => exact h
    | succ k ih => exact ih.next ok
  intro w i hi
  obtain ⟨k, rfl⟩ : ∃ k, r' = r + k := ⟨r' - r, by omega⟩
  induction k with
  | zero => rfl
  | succ k ih => rw [← Nat.add_assoc, all k w i hi, ih (by omega)]
theorem stable {n : Nat} (ok : MvOk n mv) : StB n mv (2 * n) := by
  have key : ∃ r ≤ 2 * n, StB n mv r := by
    refine Classical.byContradiction fun hne => ?_
    have hn : ∀ r, r ≤ 2 * n → ¬ StB n mv r := fun r hr h => hne ⟨r, hr, h⟩
    have grow : ∀ r, r ≤ 2 * n + 1 → r ≤ ((ptsB n).filter fun p => (stg mv r p.1 p.2).isSome).length := fun r => by
      induction r with
      | zero => exact fun _ => Nat.zero_le _
      | succ r ih =>
        intro hr
        have h1 := ih (by omega)
        have h2 : ∃ w i, i < n ∧ stg mv (r + 1) w i ≠ stg mv r w i := by
          refine Classical.byContradiction fun hc => hn r (by omega) fun w i hi => Classical.byContradiction fun hx => hc ⟨w, i, hi, hx⟩
        obtain ⟨w, i, hi, hx⟩ := h2
        have := flt_lt (E := ptsB n) (P := fun p => (stg mv r p.1 p.2).isSome) (Q := fun p => (stg mv (r + 1) p.1 p.2).isSome) (p := (w, i)) (fun q hq => by
          obtain ⟨t, e⟩ := Option.isSome_iff_exists.mp hq
          rw [stg_some e]
          rfl) (mem_ptsB.mpr hi) (by
          cases e : stg mv r w i with
          | none => rfl
          | some t => exact absurd ((stg_some e).trans e.symm) hx) (by
          cases e : stg mv (r + 1) w i with
          | some t => rfl
          | none =>
            cases e2 : stg mv r w i with
            | some t => rw [stg_some e2] at e; cases e
            | none => exact absurd (e.trans e2.symm) hx)
        omega
    have h1 := grow (2 * n + 1) (Nat.le_refl _)
    have h2 := List.length_filter_le (fun p => (stg mv (2 * n + 1) p.1 p.2).isSome) (ptsB n)
    rw [len_ptsB] at h2
    omega
  obtain ⟨r, hr, h⟩ := key
  intro w i hi
  rw [h.up ok (show r ≤ 2 * n + 1 by omega) w i hi, h.up ok hr w i hi]
/-- the rank -/
def rkB (n : Nat) (mv : Bool → Nat → List Nat) (w : Bool) (i : Nat) : Option Nat := stg mv (2 * n) w i
theorem rk_up {n r : Nat} (ok : MvOk n mv) (hr : 2 * n ≤ r) {w : Bool} {i : Nat} (hi : i < n) : stg mv r w i = rkB n mv w i := (stable ok).up ok hr w i hi
theorem rk_le {n r : Nat} (ok : MvOk n mv) {w : Bool} {i : Nat} (hi : i < n) {t : Nat} (h : stg mv r w i = some t) : rkB n mv w i = some t := by
  have := stg_mono (show r ≤ r + 2 * n by omega) h
  rwa [rk_up ok (by omega) hi] at this
/-- what the ranks of the moves tell -/
structure FxR (rows : List (Option Nat)) (o : Option Nat) : Prop where
  ev : ∀ e, some e ∈ rows → e % 2 = 0 → ∃ t, o = some (t + 1) ∧ some t ∈ rows ∧ t % 2 = 0 ∧ ∀ e', some e' ∈ rows → e' % 2 = 0 → t ≤ e'
  nn : (∀ e, some e ∈ rows → e % 2 = 1) → none ∈ rows → o = none
  od : (∀ x ∈ rows, ∃ e, x = some e ∧ e % 2 = 1) → ∃ t, o = some t ∧ (∀ e, some e ∈ rows → e + 1 ≤ t) ∧ (t = 0 ∨ ∃ e, some e ∈ rows ∧ e + 1 = t)
theorem rk_fix {n : Nat} (ok : MvOk n mv) {w : Bool} {i : Nat} (hi : i < n) : FxR ((mv w i).map (rkB n mv (!w))) (rkB n mv w i) := by
  have nx : ∀ j ∈ mv w i, j < n := ok.lt w i hi
  have inv : ∀ {t}, rkB n mv w i = some t → stg mv t w i = none ∧ dueB mv (stg mv t) w i = true := fun {t} h => by
    obtain ⟨_, h2, h3, _⟩ := stg_lt h
    exact ⟨h2, h3⟩
  have dn : rkB n mv w i = none → dueB mv (rkB n mv) w i = false := fun h => by
    cases hd : dueB mv (rkB n mv) w i with
    | false => rfl
    | true =>
      have h1 := stable ok w i hi
      have h2 : stg mv (2 * n + 1) w i = some (2 * n) := by
        rw [stg_succ, show stg mv (2 * n) w i = none from h]
        simp only [show dueB mv (stg mv (2 * n)) w i = true from hd, if_true]
      rw [h1, show stg mv (2 * n) w i = none from h] at h2
      cases h2
  refine ⟨fun e he he2 => ?_, fun h1 h2 => ?_, fun h1 => ?_⟩
  · have hm : ∃ m, (some m ∈ (mv w i).map (rkB n mv (!w)) ∧ m % 2 = 0) ∧ ∀ e', some e' ∈ (mv w i).map (rkB n mv (!w)) → e' % 2 = 0 → m ≤ e' := by
      have : ∀ e, some e ∈ (mv w i).map (rkB n mv (!w)) → e % 2 = 0 → ∃ m, (some m ∈ (mv w i).map (rkB n mv (!w)) ∧ m % 2 = 0) ∧ ∀ e', some e' ∈ (mv w i).map (rkB n mv (!w)) → e' % 2 = 0 → m ≤ e' := fun e => by
        induction e using Nat.strongRecOn with
        | ind e ih =>
          intro h1 h2
          by_cases hc : ∃ e', some e' ∈ (mv w i).map (rkB n mv (!w)) ∧ e' % 2 = 0 ∧ e' < e
          · obtain ⟨e', a, b, c⟩ := hc
            exact ih e' c a b
          · exact ⟨e, ⟨h1, h2⟩, fun e' a b => Classical.byContradiction fun h => hc ⟨e', a, b, by omega⟩⟩
      exact this e he he2
    obtain ⟨m, ⟨h1, h2⟩, h3⟩ := hm
    obtain ⟨j, hj, ej⟩ := List.mem_map.mp h1
    obtain ⟨_, _, _, h4⟩ := stg_lt ej
    have hw : dueB mv (stg mv (m + 1)) w i = true := by
      unfold dueB wonB
      rw [Bool.or_eq_true]
      refine .inl (List.any_eq_true.mpr ⟨j, hj, ?_⟩)
      rw [h4]
      exact decide_eq_true h2
    have hs : ∃ t, t ≤ m + 1 ∧ rkB n mv w i = some t := by
      cases e1 : stg mv (m + 1) w i with
      | some t =>
        have := stg_lt e1
        exact ⟨t, by omega, rk_le ok hi e1⟩
      | none =>
        have : stg mv (m + 1 + 1) w i = some (m + 1) := by
          rw [stg_succ, e1]
          simp only [hw, if_true]
        exact ⟨m + 1, Nat.le_refl _, rk_le ok hi this⟩
    obtain ⟨t, t1, t2⟩ := hs
    obtain ⟨i1, i2⟩ := inv t2
    have ht : t = m + 1 := by
      unfold dueB at i2
      rw [Bool.or_eq_true] at i2
      rcases i2 with i2 | i2
      · obtain ⟨a, j', hj', ej'⟩ := won_at i1 i2
        have := h3 (t - 1) (List.mem_map.mpr ⟨j', hj', rk_le ok (nx j' hj') ej'⟩) (by omega)
        omega
      · have := List.all_eq_true.mp i2 j hj
        cases e3 : stg mv t (!w) j with
        | none => rw [e3] at this; cases this
        | some x =>
          rw [e3] at this
          have hx : x % 2 = 1 := of_decide_eq_true this
          have := rk_le ok (nx j hj) e3
          rw [ej] at this
          cases this
          omega
    exact ⟨m, by rw [t2, ht], h1, h2, h3⟩
  · cases e : rkB n mv w i with
    | none => rfl
    | some t =>
      exfalso
      obtain ⟨i1, i2⟩ := inv e
      unfold dueB at i2
      rw [Bool.or_eq_true] at i2
      rcases i2 with i2 | i2
      · obtain ⟨a, j', hj', ej'⟩ := won_at i1 i2
        have := h1 (t - 1) (List.mem_map.mpr ⟨j', hj', rk_le ok (nx j' hj') ej'⟩)
        omega
      · obtain ⟨j, hj, ej⟩ := List.mem_map.mp h2
        have := List.all_eq_true.mp i2 j hj
        cases e3 : stg mv t (!w) j with
        | none => rw [e3] at this; cases this
        | some x =>
          have := rk_le ok (nx j hj) e3
          rw [ej] at this
          cases this
  · have hl : dueB mv (rkB n mv) w i = true := by
      unfold dueB lostB
      rw [Bool.or_eq_true]
      refine .inr (List.all_eq_true.mpr fun j hj => ?_)
      obtain ⟨e, h2, h3⟩ := h1 _ (List.mem_map.mpr ⟨j, hj, rfl⟩)
      rw [h2]
      exact decide_eq_true h3
    cases e : rkB n mv w i with
    | none => rw [dn e] at hl; cases hl
    | some t =>
      obtain ⟨i1, i2⟩ := inv e
      refine ⟨t, rfl, ?_⟩
      unfold dueB at i2
      rw [Bool.or_eq_true] at i2
      rcases i2 with i2 | i2
      · exfalso
        obtain ⟨a, j', hj', ej'⟩ := won_at i1 i2
        obtain ⟨e2, h2, h3⟩ := h1 _ (List.mem_map.mpr ⟨j', hj', rfl⟩)
        rw [rk_le ok (nx j' hj') ej'] at h2
        cases h2
        omega
      · obtain ⟨_, h4⟩ := lost_at i1 i2
        refine ⟨fun e2 he2 => ?_, h4.imp id fun ⟨j, hj, ej⟩ => ?_⟩
        · obtain ⟨j, hj, ej⟩ := List.mem_map.mp he2
          have := List.all_eq_true.mp i2 j hj
          cases e3 : stg mv t (!w) j with
          | none => rw [e3] at this; cases this
          | some x =>
            have h5 := rk_le ok (nx j hj) e3
            rw [ej] at h5
            cases h5
            have := (stg_lt e3).1
            omega
        · have h5 := rk_le ok (nx j hj) ej
          obtain ⟨h6, _⟩ := stg_lt ej
          exact ⟨t - 1, List.mem_map.mpr ⟨j, hj, h5⟩, by omega⟩
/-- there is one such row of ranks -/
theorem fix_one {n : Nat} (ok : MvOk n mv) {A B : Bool → Nat → Option Nat} (hA : ∀ w i, i < n → FxR ((mv w i).map (A (!w))) (A w i)) (hB : ∀ w i, i < n → FxR ((mv w i).map (B (!w))) (B w i)) {t : Nat}
    (ih : ∀ t', t' < t → ∀ w i, i < n → (A w i = some t' ↔ B w i = some t')) {w : Bool} {i : Nat} (hi : i < n) (h : A w i = some t) : B w i = some t := by
  have nx : ∀ j ∈ mv w i, j < n := ok.lt w i hi
  have a := hA w i hi
  have b := hB w i hi
  by_cases h1 : ∃ e, some e ∈ (mv w i).map (A (!w)) ∧ e % 2 = 0
  · obtain ⟨e, h2, h3⟩ := h1
    obtain ⟨m, h4, h5, h6, h7⟩ := a.ev e h2 h3
    rw [h] at h4
    cases h4
    obtain ⟨j, hj, ej⟩ := List.mem_map.mp h5
    have bj := (ih m (by omega) (!w) j (nx j hj)).mp ej
    obtain ⟨m', b1, b2, b3, b4⟩ := b.ev m (List.mem_map.mpr ⟨j, hj, bj⟩) h6
    have l1 := b4 m (List.mem_map.mpr ⟨j, hj, bj⟩) h6
    obtain ⟨j', hj', ej'⟩ := List.mem_map.mp b2
    have aj := (ih m' (by omega) (!w) j' (nx j' hj')).mpr ej'
    have l2 := h7 m' (List.mem_map.mpr ⟨j', hj', aj⟩) b3
    rw [b1]
    congr 2
    omega
  · have hodd : ∀ e, some e ∈ (mv w i).map (A (!w)) → e % 2 = 1 := fun e he => by
      have : ¬ e % 2 = 0 := fun h2 => h1 ⟨e, he, h2⟩
      omega
    by_cases h2 : none ∈ (mv w i).map (A (!w))
    · rw [a.nn hodd h2] at h
      cases h
    · have hall : ∀ x ∈ (mv w i).map (A (!w)), ∃ e, x = some e ∧ e % 2 = 1 := fun x hx => by
        cases x with
        | none => exact absurd hx h2
        | some e => exact ⟨e, rfl, hodd e hx⟩
      obtain ⟨t', h3, h4, h5⟩ := a.od hall
      rw [h] at h3
      cases h3
      have same : (mv w i).map (B (!w)) = (mv w i).map (A (!w)) := by
        refine List.map_congr_left fun j hj => ?_
        obtain ⟨e, e1, _⟩ := hall _ (List.mem_map.mpr ⟨j, hj, rfl⟩)
        have := h4 e (List.mem_map.mpr ⟨j, hj, e1⟩)
        rw [e1]
        exact (ih e (by omega) (!w) j (nx j hj)).mp e1
      rw [same] at b
      obtain ⟨t', b1, b2, b3⟩ := b.od hall
      rw [b1]
      congr 1
      rcases h5 with h5 | ⟨e, h5, h6⟩
      · rcases b3 with b3 | ⟨e', b3, b4⟩
        · omega
        · have := h4 e' b3
          omega
      · have := b2 e h5
        rcases b3 with b3 | ⟨e', b3, b4⟩
        · omega
        · have := h4 e' b3
          omega
theorem fix_uniq {n : Nat} (ok : MvOk n mv) {A B : Bool → Nat → Option Nat} (hA : ∀ w i, i < n → FxR ((mv w i).map (A (!w))) (A w i)) (hB : ∀ w i, i < n → FxR ((mv w i).map (B (!w))) (B w i)) : ∀ w i, i < n → A w i = B w i := by
  have key : ∀ t w i, i < n → (A w i = some t ↔ B w i = some t) := fun t => by
    induction t using Nat.strongRecOn with
    | ind t ih => exact fun w i hi => ⟨fix_one ok hA hB ih hi, fix_one ok hB hA (fun t' h w i hi => (ih t' h w i hi).symm) hi⟩
  intro w i hi
  cases e : A w i with
  | some t => exact ((key t w i hi).mp e).symm
  | none =>
    cases e2 : B w i with
    | none => rfl
    | some t => rw [(key t w i hi).mpr e2] at e; cases e
theorem stg_turn (r : Nat) (w : Bool) (i : Nat) : stg (fun w i => mv (!w) i) r w i = stg mv r (!w) i := by
  induction r generalizing w i with
  | zero => rfl
  | succ r ih =>
    have hd : dueB (fun w i => mv (!w) i) (stg (fun w i => mv (!w) i) r) w i = dueB mv (stg mv r) (!w) i := by
      unfold dueB wonB lostB
      rw [any_congr fun j hj => by rw [ih], all_congr fun j hj => by rw [ih]]
    rw [stg_succ, stg_succ, ih, hd]
theorem rk_turn (n : Nat) (w : Bool) (i : Nat) : rkB n (fun w i => mv (!w) i) w i = rkB n mv (!w) i := stg_turn _ w i
def remB (n : Nat) (mv : Bool → Nat → List Nat) : Nat → List Nat
  | 0 => List.range n
  | k + 1 => (remB n mv k).filter fun i => (mv true i ++ mv false i).any fun j => decide (j ∈ remB n mv k)
theorem rem_rk {n : Nat} (ok : MvOk n mv) : ∀ k i, i < n → i ∉ remB n mv k → ∀ w, rkB n mv w i ≠ none := fun k => by
  induction k with
  | zero => exact fun i hi h => absurd (List.mem_range.mpr hi) h
  | succ k ih =>
    intro i hi h w
    by_cases h1 : i ∈ remB n mv k
    · have h2 : ((mv true i ++ mv false i).any fun j => decide (j ∈ remB n mv k)) = false := by
        rw [← Bool.not_eq_true]
        intro h3
        exact h (List.mem_filter.mpr ⟨h1, h3⟩)
      have h4 : ∀ j ∈ mv w i, rkB n mv (!w) j ≠ none := fun j hj => by
        have hm : j ∈ mv true i ++ mv false i := by
          cases w
          · exact List.mem_append.mpr (.inr hj)
          · exact List.mem_append.mpr (.inl hj)
        have := List.any_eq_false.mp h2 j hm
        exact ih j (ok.lt w i hi j hj) (by simpa using this) _
      have f := rk_fix ok (w := w) hi
      intro h5
      by_cases h6 : ∃ e, some e ∈ (mv w i).map (rkB n mv (!w)) ∧ e % 2 = 0
      · obtain ⟨e, h7, h8⟩ := h6
        obtain ⟨t, h9, _⟩ := f.ev e h7 h8
        rw [h5] at h9
        cases h9
      · obtain ⟨t, h9, _⟩ := f.od fun x hx => by
          obtain ⟨j, hj, rfl⟩ := List.mem_map.mp hx
          cases e : rkB n mv (!w) j with
          | none => exact absurd e (h4 j hj)
          | some e' =>
            refine ⟨e', rfl, ?_⟩
            have : ¬ e' % 2 = 0 := fun h10 => h6 ⟨e', List.mem_map.mpr ⟨j, hj, e⟩, h10⟩
            omega
        rw [h5] at h9
        cases h9
    · exact ih i hi h1 w
def okR (rank there : Option Nat) : Bool := match rank, there with
  | none, none => true
  | some r, some t => decide (t + 1 = r)
  | _, _ => false
def bestB (mv : Bool → Nat → List Nat) (f : Bool → Nat → Option Nat) (w : Bool) (i : Nat) : Option Nat := (mv w i).find? fun j => okR (f w i) (f (!w) j)
theorem best_lt {n : Nat} (ok : MvOk n mv) {f : Bool → Nat → Option Nat} {w : Bool} {i j : Nat} (hi : i < n) (h : bestB mv f w i = some j) : j < n ∧ okR (f w i) (f (!w) j) = true := by
  have h1 := List.mem_of_find?_eq_some h
  have h2 := List.find?_some h
  exact ⟨ok.lt w i hi j h1, h2⟩
theorem best_some {n : Nat} (ok : MvOk n mv) {w : Bool} {i : Nat} (hi : i < n) (h : rkB n mv w i ≠ some 0) : ∃ j, bestB mv (rkB n mv) w i = some j := by
  have f := rk_fix ok (w := w) hi
  have : ∃ j ∈ mv w i, okR (rkB n mv w i) (rkB n mv (!w) j) = true := by
    by_cases h6 : ∃ e, some e ∈ (mv w i).map (rkB n mv (!w)) ∧ e % 2 = 0
    · obtain ⟨e, h7, h8⟩ := h6
      obtain ⟨t, h9, h10, _⟩ := f.ev e h7 h8
      obtain ⟨j, hj, ej⟩ := List.mem_map.mp h10
      refine ⟨j, hj, ?_⟩
      rw [h9, ej]
      exact decide_eq_true rfl
    · have hodd : ∀ e, some e ∈ (mv w i).map (rkB n mv (!w)) → e % 2 = 1 := fun e he => by
        have : ¬ e % 2 = 0 := fun h2 => h6 ⟨e, he, h2⟩
        omega
      by_cases h2 : none ∈ (mv w i).map (rkB n mv (!w))
      · obtain ⟨j, hj, ej⟩ := List.mem_map.mp h2
        refine ⟨j, hj, ?_⟩
        rw [f.nn hodd h2, ej]
        rfl
      · obtain ⟨t, h3, _, h5⟩ := f.od fun x hx => by
          cases x with
          | none => exact absurd hx h2
          | some e => exact ⟨e, rfl, hodd e hx⟩
        rcases h5 with h5 | ⟨e, h5, h7⟩
        · rw [h3, h5] at h
          exact absurd rfl h
        · obtain ⟨j, hj, ej⟩ := List.mem_map.mp h5
          refine ⟨j, hj, ?_⟩
          rw [h3, ej]
          exact decide_eq_true h7
  obtain ⟨j, hj, e⟩ := this
  cases hf : bestB mv (rkB n mv) w i with
  | some j => exact ⟨j, rfl⟩
  | none =>
    unfold bestB at hf
    rw [List.find?_eq_none] at hf
    exact absurd e (hf j hj)
def lineB (best : Bool → Nat → Option Nat) : Nat → Bool → Nat → List Nat
  | 0, _, i => [i]
  | k + 1, w, i => match best w i with
    | none => [i]
    | some j => i :: lineB best k (!w) j
theorem line_len {n : Nat} (ok : MvOk n mv) : ∀ (k : Nat) (w : Bool) (i : Nat), i < n → (lineB (bestB mv (rkB n mv)) k w i).length = (match rkB n mv w i with
    | some r => min r k
    | none => k) + 1
  | 0, w, i, hi => by
    rw [lineB]
    cases rkB n mv w i <;> simp
  | k + 1, w, i, hi => by
    rw [lineB]
    by_cases h : rkB n mv w i = some 0
    · have : bestB mv (rkB n mv) w i = none := by
        unfold bestB
        rw [List.find?_eq_none]
        intro j hj
        rw [h]
        cases rkB n mv (!w) j with
        | none => exact Bool.false_ne_true
        | some t =>
          show ¬ decide (t + 1 = 0) = true
          simp
      rw [this, h]
      simp
    · obtain ⟨j, hj⟩ := best_some ok hi h
      obtain ⟨h1, h2⟩ := best_lt ok hi hj
      rw [hj]
      simp only [List.length_cons]
      rw [line_len ok k (!w) j h1]
      cases e : rkB n mv w i with
      | none =>
        rw [e] at h2
        cases e2 : rkB n mv (!w) j with
        | none => rfl
        | some t => rw [e2] at h2; cases h2
      | some r =>
        rw [e] at h2
        cases e2 : rkB n mv (!w) j with
        | none => rw [e2] at h2; cases h2
        | some t =>
          rw [e2] at h2
          have h2 : t + 1 = r := of_decide_eq_true h2
          simp only
          omega
end
end N

namespace N
open PySem L2 PyProof.Rows
open Z (Ext dpUp dpsUp dpsLen dpsGet DxO KyD DEn Cl cut offv bl Dfn)

section
variable {X : Cx}
end
section
variable {X : Cx} {a ex : Expr} {ma : ME} {ms : MA} {pos apos : Pos}
end
def eLstR (own : Bool) (ma : ME) : ME := fun e s => match ma e s with
  | some (.d (.int i), s1) => if 0 ≤ i ∧ i ≤ 10000 then mkL own s1 ((rgI 0 i).map .d) else none
  | _ => none
section
variable {X : Cx} {a : Expr} {ma : ME} {own : Bool} {p pos p2 pos2 : Pos}
theorem n_lstR (hc : X.calm = true) (ha : NE X a ma) (hm : X.mg "list" = none) (hr : X.mg "range" = none) (hg : Gl X "list" := by rfl) (hg2 : Gl X "range" := by rfl)
    (na : starEach [a] X.env = (false, eval a X.env) :: starEach [] X.env := by rfl)
    (nc : starEach [.Call (.Name "range" p2) [a] [] pos2] X.env = (false, eval (.Call (.Name "range" p2) [a] [] pos2) X.env) :: starEach [] X.env := by rfl) :
    NE X (.Call (.Name "list" p) [.Call (.Name "range" p2) [a] [] pos2] [] pos) (eLstR own ma) := fun e s z s' h => by
  unfold eLstR at h
  split at h
  · rename_i i s1 e1
    split at h
    · rename_i hi
      refine PE.imp (pe_listRg hc hg hm (prg_1 hg2 hr (ha _ _ _ _ e1) na) nc) fun σ H Q ⟨w, g, l, k⟩ => ⟨w, g, l, fun v w1 H1 l1 g1 v1 => ?_⟩
      cases vr_int v1
      refine ⟨i, rfl, RgOk.of_le (by decide) (by omega) (by decide) (by omega), fun q hq => ?_⟩
      obtain ⟨w', l', g', v'⟩ := mkL_ok h g1 hq (VRs.data.mpr dps_rg)
      exact k _ w' _ (l1.trans l') g' v'
    · cases h
  · cases h
end
section
variable {X : Cx} {a b c d v1 v2 v3 : Expr} {ma mi mb mj : ME} {ms : MA} {pos px pt pt2 tp1 tp2 : Pos} {kt k2 : Nat}
end
section
variable {X : Cx} {pos : Pos} {keys : List (Option Expr)} {values : List Expr} {k v : Expr} {m mv : ME} {mr : MPP}
end
section
variable {X : Cx} {a b c : Expr} {ms : MA} {pos : Pos}
end
end N

namespace N
open PySem L2 PyProof.Rows
open Z (Ext dpUp dpsUp dpsLen dpsGet DxO KyD DEn Cl cut offv bl Dfn)

section
variable {X : Cx} {pos : Pos}
end
end N

namespace N
open PySem L2 PyProof.Rows
open Z (Ext dpUp dpsUp dpsLen dpsGet DxO KyD DEn dkind)

def rGetX (X : Cx) : V → List V → Hp → VK → Prop := fun x xs H Q => ∃ p b es d v, x = .ref p ∧ xs = [.ref b] ∧ H p = some (DxO X.prog X.w p es) ∧ (∀ e ∈ es, KyD X.K H e.2.1 e.1) ∧ KyD X.K H b d ∧
  ((atKey es d = none ∧ v = .non) ∨ ∃ c u, atKey es d = some (c, u) ∧ RelV v u) ∧ Q v H
section
variable {X : Cx}
theorem mt_getX (hu : X.A.units + 20 < cLine) : MtR X "dict.get" (rGetX X) := by
  intro pins s σ H x xs v us Q I rx rs h
  obtain ⟨p, b, es, d, v', rfl, rfl, hp, hk, hb, ha, q⟩ := h
  cases rx
  obtain ⟨u, rfl, ru⟩ := Vals.one rs
  cases ru
  obtain ⟨h1, h2, h3⟩ := Z.dx_H I hp hk
  refine call_meetsIn PySem.F.slot_dict_get h3.typeIs PySem.F.entry_dict_get (PySem.F.args_dict_get_2 _ _) (meetsH_dict_get (dkind X.prog X.w) p b h2) ⟨show X.A.units + 1 + 10 < cLine by omega, d, es, ⟨hb.2.2, Z.dp_at I _ _ _ hb.2.1 hb.1 rfl⟩, h3, ?_⟩
  rcases ha with ⟨e, rfl⟩ | ⟨c, u, e, r⟩
  · rw [e]
    exact ⟨.non, H, I.tok _, rfl, q⟩
  · rw [e]
    exact ⟨v', H, I.tok _, r, q⟩
def tGetX (X : Cx) (to : TE) (t : TA) : TE := fun σ H Q => to σ H fun x H1 => (∃ p es, x = .ref p ∧ H1 p = some (DxO X.prog X.w p es)) ∧ t σ H1 fun xs H2 => rGetX X x xs H2 Q
variable {o ex : Expr} {to : TE} {t : TA} {apos cpos : Pos}
theorem pe_getX (hu : X.A.units + 20 < cLine) (ho : PE X o to) (ha : PA X [ex] t)
    (hbase : attributeBase o "get" X.env (eval o X.env) = eval o X.env := by rfl)
    (hfew : ((backTo cpos (starEach [ex] X.env)).all (fun x => !x.1) && (backToKw cpos (keywordEach [] X.env)).all (fun x => x.1.isSome)
      && decide ([ex].length + ([] : List Keyword).length + (if ([] : List Keyword).isEmpty then 0 else 1) < 30)) = true := by rfl)
    (hline : (apos.endLine == cpos.line) = true := by rfl) (hs : starEach [ex] X.env = (false, eval ex X.env) :: starEach [] X.env := by rfl) (hplain : (backTo cpos (starEach [] X.env)).any (·.1) = false := by rfl) :
    PE X (.Call (.Attribute o "get" apos) [ex] [] cpos) (tGetX X to t) := by
  refine ⟨fun pins s σ H Q I h => ?_⟩
  refine wpAny_Call_method_late hbase hfew hline rfl (L2.thn (ho.run pins s σ H _ I h) fun v s1 ⟨x, H1, I1, r1, ty, q1⟩ => ?_)
  obtain ⟨p, es, rfl, hp⟩ := ty
  cases r1
  obtain ⟨_, _, ob, _, _, hob, ho2, _⟩ := Z.dx_of I1.hok hp
  refine ⟨"dict", "dict.get", PySem.F.plainAttrs_dict, PySem.F.slot_dict_get, PySem.F.type_dict_get, ⟨ob, hob, ho2.1⟩, fun a e => ?_, ?_⟩
  · cases e
    exact ⟨ob, hob, ho2.2.1⟩
  · have hA := ha.run cpos pins s1 σ H1 _ I1 q1
    rw [hs] at hA ⊢
    refine Calls.callWith_builtin (by show (false || (backTo cpos (starEach [] X.env)).any (·.1)) = false; rw [hplain] <;> rfl) (Calls.evalArgs_plain ?_)
    exact L2.thn hA fun us s2 ⟨vs, H2, I2, r2, q2⟩ => mt_getX hu pins s2 σ H2 (.ref p) vs _ us Q I2 rfl r2 q2
end
theorem DR.miss {B : Ba} {w : W} {x : PyData} : ∀ {xs : List DEn} {kvs : List (PyData × D)}, DR B w xs kvs → dGet kvs x = none → atKey xs x = none
  | [], [], _, h => rfl
  | e :: xs, kv :: kvs, ⟨⟨h1, h2, vv, h4, h5⟩, h6⟩, h => by
    unfold dGet at h
    unfold atKey
    rw [List.find?_cons] at h ⊢
    by_cases hk : kv.1 = x
    · simp only [hk, decide_true] at h
      cases h
    · rw [h1]
      simp only [hk, decide_false] at h ⊢
      exact DR.miss h6 h
  | [], _ :: _, h, _ => h.elim
  | _ :: _, [], h, _ => h.elim
/-- d.get(k) for dicts with tuples as keys -/
noncomputable def eGetT (ma : ME) (ms : MA) : ME := fun e s => match ma e s with
  | some (.r j, s1) => match s1[j]? with
    | some (.dic _) => match ms e s1 with
      | some ([.d x], s2) => match s2[j]? with
        | some (.dic kvs) => if isKey x then match dGet kvs x with
            | some d => some (d, s2)
            | none => some (.d .none, s2)
          else none
        | _ => none
      | _ => none
    | _ => none
  | _ => none
section
variable {X : Cx} {o ex : Expr} {ma : ME} {ms : MA} {apos pos : Pos}
theorem n_getT (hu : X.A.units + 64 < cLine) (ha : NE X o ma) (hs : NA X [ex] ms)
    (hbase : attributeBase o "get" X.env (eval o X.env) = eval o X.env := by rfl)
    (hfew : ((backTo pos (starEach [ex] X.env)).all (fun x => !x.1) && (backToKw pos (keywordEach [] X.env)).all (fun x => x.1.isSome)
      && decide ([ex].length + ([] : List Keyword).length + (if ([] : List Keyword).isEmpty then 0 else 1) < 30)) = true := by rfl)
    (hline : (apos.endLine == pos.line) = true := by rfl) (hst : starEach [ex] X.env = (false, eval ex X.env) :: starEach [] X.env := by rfl) (hplain : (backTo pos (starEach [] X.env)).any (·.1) = false := by rfl) :
    NE X (.Call (.Attribute o "get" apos) [ex] [] pos) (eGetT ma ms) := fun e s z s' h => by
  unfold eGetT at h
  split at h
  · rename_i j s1 e1
    split at h
    · rename_i kvs0 e0
      split at h
      · rename_i x s2 e2
        split at h
        · rename_i kvs e4
          split at h
          · rename_i hk
            refine PE.imp (pe_getX (by omega) (ha _ _ _ _ e1) (hs _ _ _ _ e2) hbase hfew hline hst hplain) fun σ H Q ⟨w, g, l, k⟩ => ⟨w, g, l, fun v w1 H1 l1 g1 v1 => ?_⟩
            obtain ⟨p1, hp1, rfl⟩ := v1
            obtain ⟨_, xs0, q0, _⟩ := g1.ce _ _ p1 e0 hp1
            refine ⟨⟨p1, xs0, rfl, q0⟩, w1, g1, l.up l1, fun us w2 H2 l2 g2 v2 => ?_⟩
            obtain ⟨u, rfl, hu2⟩ := vrs1 v2
            obtain ⟨b1, rfl, kb⟩ := key_ok hk hu2
            have hp2 := pre_get l2.ρ hp1
            obtain ⟨_, xs, q1, q2⟩ := g2.ce _ _ p1 e4 hp2
            split at h
            · rename_i d e5
              cases h
              obtain ⟨c, uu, vv, h5, h6, h7⟩ := q2.get e5
              exact ⟨p1, b1, xs, x, vv, rfl, rfl, q1, q2.ky g2.ext, ⟨dpUp g2.ext _ _ kb.1, kb.2⟩, .inr ⟨c, uu, h5, h6⟩, k vv w2 H2 (l1.trans l2) g2 h7⟩
            · rename_i e5
              cases h
              exact ⟨p1, b1, xs, x, .non, rfl, rfl, q1, q2.ky g2.ext, ⟨dpUp g2.ext _ _ kb.1, kb.2⟩, .inl ⟨q2.miss e5, rfl⟩, k .non w2 H2 (l1.trans l2) g2 .non⟩
          · cases h
        · cases h
      · cases h
    · cases h
  · cases h
end
def eUpper (ma : ME) : ME := fun e s => match ma e s with
  | some (.d (.str z), s1) => if z.length ≤ 5592405 then some (.d (.str (Txt.upper z)), s1) else none
  | _ => none
section
variable {X : Cx} {o : Expr} {ma : ME} {apos pos : Pos}
theorem n_upper (ha : NE X o ma) (hbase : attributeBase o "upper" X.env (eval o X.env) = eval o X.env := by rfl) (hline : (apos.endLine == pos.line) = true := by rfl) : NE X (.Call (.Attribute o "upper" apos) [] [] pos) (eUpper ma) := fun e s z s' h => by
  unfold eUpper at h
  split at h
  · rename_i x s1 e1
    split at h
    · rename_i hl
      cases h
      refine PE.imp (pe_upper (ha _ _ _ _ e1) hbase hline) fun σ H Q ⟨w, g, l, k⟩ => ⟨w, g, l, fun v w1 H1 l1 g1 v1 => ?_⟩
      cases vr_str v1
      exact ⟨⟨_, rfl⟩, _, rfl, rfl, hl, k _ w1 H1 l1 g1 vs'⟩
    · cases h
  · cases h
end
end N

namespace N
open PySem L2 PyProof.Rows

noncomputable def b__law_box : MS := (sSeq (sRet (eLst true (aCons (eCall (bList true) (aCons (eSl false (eVar 0) oNone (oSome (eC (.int 63)))) aNil)) (aCons (eC (.int 0)) (aCons (eBin (oAdd true) (eC (.int 4711)) (eCall bLen (aCons (eVar 0) aNil))) aNil)))))
  sNil)
noncomputable def m__law_box : FA := fnR 1 1 true b__law_box
noncomputable def b__law_load : MS := (sSeq (sSet 1 (eIt (eVar 0) (eC (.int 0))))
  (sSeq (sIf (tCmp cGt (eCall bLen (aCons (eVar 1) aNil)) (eC (.int 0))) (sSeq (sSet 2 (eCall bInt (aCons (eMeth fPopAt (eVar 1) (aCons (eC (.int 0)) aNil)) aNil)))
  (sSeq (sSet 3 (eIte (tCmp cGe (eVar 2) (eC (.int 0))) (eBin oMul (eC (.int 2)) (eVar 2)) (eBin oSub (eBin oMul (eNeg (eC (.int 2))) (eVar 2)) (eC (.int 1)))))
  (sSeq (sIf (tCmp cGe (eVar 3) (eC (.int 1000000000000000000))) (sSeq (sRet (eVar 3))
  sNil) sNil)
  (sSeq (sPu (eVar 0) (eC (.int 2)) (eBin oMod (eCall bInt (aCons (eBin (oAdd false) (eBin (oAdd false) (eBin oMul (eIt (eVar 0) (eC (.int 2))) (eC (.int 69621))) (eBin oMul (eVar 3) (eC (.int 48271)))) (eC (.int 11))) aNil)) (eC (.int 2147483647))))
  sNil)))) sNil)
  (sSeq (sSet 4 (eBin oMod (eCall bInt (aCons (eBin (oAdd false) (eBin oMul (eIt (eVar 0) (eC (.int 2))) (eC (.int 48271))) (eC (.int 17))) aNil)) (eC (.int 2147483629))))
  (sSeq (sSet 5 (eBin oMod (eCall bInt (aCons (eBin (oAdd false) (eBin oMul (eVar 4) (eC (.int 69621))) (eC (.int 5))) aNil)) (eC (.int 2147483587))))
  (sSeq (sPu (eVar 0) (eC (.int 2)) (eBin oMod (eCall bInt (aCons (eBin (oAdd false) (eBin oMul (eVar 5) (eC (.int 40692))) (eC (.int 3))) aNil)) (eC (.int 2147483563))))
  (sSeq (sRet (eBin (oAdd false) (eBin (oAdd false) (eBin oMul (eVar 4) (eC (.int 4611686014132420609))) (eBin oMul (eVar 5) (eC (.int 2147483647)))) (eIt (eVar 0) (eC (.int 2)))))
  sNil))))))
noncomputable def m__law_load : FA := fnR 1 6 false b__law_load
noncomputable def b__law_draw : MS := (sSeq (sIf (tCmp cLt (eIt (eVar 0) (eC (.int 1))) (eVar 1)) (sSeq (sPu (eVar 0) (eC (.int 1)) (eCall m__law_load (aCons (eVar 0) aNil)))
  sNil) sNil)
  (sSeq (sSet 2 (eBin oMod (eCall bInt (aCons (eIt (eVar 0) (eC (.int 1))) aNil)) (eVar 1)))
  (sSeq (sPu (eVar 0) (eC (.int 1)) (eBin oDiv (eIt (eVar 0) (eC (.int 1))) (eVar 1)))
  (sSeq (sRet (eVar 2))
  sNil))))
noncomputable def m__law_draw : FA := fnR 2 3 false b__law_draw

def bx (xs : List Int) (p q : Int) (rest : Sto) : Sto := .lst (xs.map fun i => .d (.int i)) :: .lst [.r 0, .d (.int p), .d (.int q)] :: rest
def BS (rest s : Sto) : Prop := ∃ xs p q, s = bx xs p q rest
section
variable {xs : List Int} {p q : Int} {rest : Sto}
theorem bx_0 : itF (bx xs p q rest) (.r 1) (.d (.int 0)) = some (.r 0) := itF_l rfl rfl
theorem bx_1 : itF (bx xs p q rest) (.r 1) (.d (.int 1)) = some (.d (.int p)) := itF_l rfl rfl
theorem bx_2 : itF (bx xs p q rest) (.r 1) (.d (.int 2)) = some (.d (.int q)) := itF_l rfl rfl
theorem bx_len : bLen (bx xs p q rest) [.r 0] = some (.d (.int xs.length), bx xs p q rest) := by
  rw [len_r (s := bx xs p q rest) (j := 0) (ds := xs.map fun i => .d (.int i)) rfl, List.length_map]
theorem xb_1 {v : Int} : putF (bx xs p q rest) (.r 1) (.d (.int 1)) (.d (.int v)) = some (bx xs v q rest) := putF_l (k := 1) (ds := [.r 0, .d (.int p), .d (.int q)]) rfl rfl
theorem xb_2 {v : Int} : putF (bx xs p q rest) (.r 1) (.d (.int 2)) (.d (.int v)) = some (bx xs p v rest) := putF_l (k := 2) (ds := [.r 0, .d (.int p), .d (.int q)]) rfl rfl
theorem bx_c0 : (bx xs p q rest)[0]? = some (.lst (xs.map fun i => .d (.int i))) := rfl
theorem BS.len {s : Sto} (h : BS rest s) : s.length = 2 + rest.length := by
  obtain ⟨xs, p, q, rfl⟩ := h
  simp [bx]; omega
theorem bx_trim {ys : List Int} {p' q' : Int} : trim (bx xs p q rest) (bx ys p' q' rest) = bx ys p' q' rest := trim_len (by simp [bx])
theorem v_pop0 {s : Sto} {y : D} {ys : List D} {Qm : List D → D → Prop} (h : Qm ys y) : Rm (fPopAt s (y :: ys) [.d (.int 0)]) Qm := by
  refine ⟨ys, y, ?_, h⟩
  have e : seqIndex? 0 (y :: ys).length = some 0 := by
    unfold seqIndex?
    simp
  unfold fPopAt
  simp only [e]
  rfl
theorem bx_pop {i : Int} : List.set (bx (i :: xs) p q rest) 0 (Cell.lst (xs.map fun i => D.d (.int i))) = bx xs p q rest := rfl
end
theorem load_ok (xs : List Int) (p q : Int) (rest : Sto) : R (m__law_load (bx xs p q rest) [.r 1]) fun x s' => ∃ (v : Int) (ys : List Int) (q' : Int), x = .d (.int v) ∧ s' = bx ys p q' rest := by
  unfold m__law_load b__law_load
  cases xs with
  | nil =>
    simp [bx_0, bx_1, bx_2, bx_len, Rs_pu, R_it, R_fn, xb_1, xb_2, v_mod, v_mulR, R_retd, bx_trim]
    exact ⟨_, _, rfl⟩
  | cons i xs =>
    simp [bx_0, bx_1, bx_2, bx_len, Rs_pu, R_it, R_fn, xb_1, xb_2, v_mod, v_mulR, R_retd, bx_trim, bx_c0]
    refine v_pop0 ?_
    rw [bx_pop]
    simp [bx_0, bx_1, bx_2, bx_len, xb_1, xb_2, v_mod, v_mulR, v_mulL, R_retd, bx_trim]
    exact ⟨fun _ => ⟨fun _ => ⟨_, _, rfl⟩, fun _ => ⟨_, _, rfl⟩⟩, fun _ => ⟨fun _ => ⟨_, _, rfl⟩, fun _ => ⟨_, _, rfl⟩⟩⟩
theorem draw_ok {rest s : Sto} {m : Int} (h : BS rest s) (h0 : 0 < m) (h1 : m < 2 ^ 256) : R (m__law_draw s [.r 1, .d (.int m)]) fun x s' => ∃ d : Int, x = .d (.int d) ∧ 0 ≤ d ∧ d < m ∧ BS rest s' := by
  obtain ⟨xs, p, q, rfl⟩ := h
  have M (q' : Int) : 0 ≤ q' % m ∧ q' % m < m := ⟨Int.emod_nonneg _ (by omega), Int.emod_lt_of_pos _ h0⟩
  have T (ys : List Int) (p' q' : Int) : BS rest (bx ys p' q' rest) := ⟨ys, p', q', rfl⟩
  unfold m__law_draw b__law_draw
  simp [bx_1, Rs_pu, R_it, R_fn]
  refine ⟨fun _ => ?_, fun _ => ?_⟩
  · refine (load_ok xs p q rest).imp fun x s' ⟨v, ys, q', e1, e2⟩ => ?_
    subst e1 e2
    simp [bx_1, xb_1, v_mod h0, v_div h0 h1, R_retd, bx_trim, M, T]
  · simp [bx_1, xb_1, v_mod h0, v_div h0 h1, R_retd, bx_trim, M, T]
theorem R_draw {rest s : Sto} {m : Nat} {Q : D → Sto → Prop} (h : BS rest s) (h0 : 0 < m) (h1 : m < 2 ^ 256) (q : ∀ (d : Nat) s', d < m → BS rest s' → Q (.d (.int (d : Nat))) s') : R (m__law_draw s [.r 1, .d (.int (m : Nat))]) Q := by
  refine (draw_ok h (m := (m : Int)) (by omega) (by omega)).imp fun x s' ⟨d, e, h2, h3, h4⟩ => ?_
  subst e
  have := q d.toNat s' (by omega) h4
  rwa [Int.toNat_of_nonneg h2] at this
theorem R_box {ns : List Int} {Q : D → Sto → Prop} (q : ∀ s, BS [] s → Q (.r 1) s) : R (m__law_box [] [.d (.list (ns.map .int))]) Q := by
  unfold m__law_box b__law_box
  simp [R_fn, asL, cutD_map, data_mapf, v_list, len_l, ret_own, lim]
  exact q _ ⟨cutD ns none (some 63), 0, 4711 + ns.length, by simp [bx]⟩
theorem BS.wf {rest s : Sto} (h : BS rest s) (f : Flat rest) : Wf s := by
  have hl := h.len
  obtain ⟨xs, p, q, rfl⟩ := h
  intro c hc
  unfold bx at hc
  rcases List.mem_cons.mp hc with rfl | hc
  · intro j hj; simp at hj
  · rcases List.mem_cons.mp hc with rfl | hc
    · intro j hj
      simp at hj
      omega
    · exact f c hc _
theorem BS.app {rest s : Sto} (h : BS rest s) (g : Sto) : BS (rest ++ g) (s ++ g) := by
  obtain ⟨xs, p, q, rfl⟩ := h
  exact ⟨xs, p, q, rfl⟩
theorem BS.unapp {rest g s : Sto} (h : BS (rest ++ g) s) : ∃ s', s = s' ++ g ∧ BS rest s' := by
  obtain ⟨xs, p, q, rfl⟩ := h
  exact ⟨bx xs p q rest, rfl, xs, p, q, rfl⟩
theorem BS.get {rest s : Sto} (h : BS rest s) (j : Nat) : s[j + 2]? = rest[j]? := by
  obtain ⟨xs, p, q, rfl⟩ := h
  rfl
theorem BS.put {rest s : Sto} (h : BS rest s) (j : Nat) (c : Cell) : BS (rest.set j c) (s.set (j + 2) c) := by
  obtain ⟨xs, p, q, rfl⟩ := h
  exact ⟨xs, p, q, rfl⟩
end N

namespace N
open PySem L2 PyProof.Rows

noncomputable def b_other_one : MS := (sSeq (sRet (eIte (tCmp cEq (eVar 0) (eC (.str "left"))) (eC (.str "right")) (eC (.str "left"))))
  sNil)
noncomputable def m_other_one : FA := fnR 1 1 false b_other_one
noncomputable def b_moves_of : MS := (sSeq (sRet (eIte (tCmp cEq (eVar 1) (eC (.str "left"))) (eIt (eVar 0) (eC (.int 0))) (eIt (eVar 0) (eC (.int 1)))))
  sNil)
noncomputable def m_moves_of : FA := fnR 2 2 false b_moves_of
noncomputable def b_turned_board : MS := (sSeq (sRet (eTup (aCons (eIt (eVar 0) (eC (.int 1))) (aCons (eIt (eVar 0) (eC (.int 0))) aNil))))
  sNil)
noncomputable def m_turned_board : FA := fnR 1 1 false b_turned_board
noncomputable def b_is_loopless : MS := (sSeq (sSet 1 (eCall bLen (aCons (eIt (eVar 0) (eC (.int 0))) aNil)))
  (sSeq (sSet 2 (eLstR false (eVar 1)))
  (sSeq (sWhile (tVal (eC (.bool true))) (sSeq (sSet 3 (eLc false [4] (iSeq (eVar 2)) (gName 4) (tVal (eCall bAny (aCons (eLc false [5] (iSeq (eBin (oAdd false) (eIt (eIt (eVar 0) (eC (.int 0))) (eVar 4)) (eIt (eIt (eVar 0) (eC (.int 1))) (eVar 4)))) (gName 5) tTrue (eCmp (cIn false) (eVar 5) (eVar 2))) aNil))) (eVar 4)))
  (sSeq (sIf (tCmp cEq (eCall bLen (aCons (eVar 3) aNil)) (eCall bLen (aCons (eVar 2) aNil))) (sSeq (sRet (eNot (eVar 2)))
  sNil) sNil)
  (sSeq (sSet 2 (eVar 3))
  sNil))) [3])
  sNil)))
noncomputable def m_is_loopless : FA := fnR 1 6 false b_is_loopless
noncomputable def b_is_due : MS := (sSeq (sSet 5 (eLc false [6] (iSeq (eIt (eCall m_moves_of (aCons (eVar 0) (aCons (eVar 2) aNil))) (eVar 3))) (gName 6) tTrue (eGetT (eVar 1) (aCons (eTup (aCons (eCall m_other_one (aCons (eVar 2) aNil)) (aCons (eVar 6) aNil))) aNil))))
  (sSeq (sIf (tCmp cEq (eBin oMod (eVar 4) (eC (.int 2))) (eC (.int 1))) (sSeq (sRet (eCmp (cIn false) (eBin oSub (eVar 4) (eC (.int 1))) (eVar 5)))
  sNil) sNil)
  (sSeq (sRet (eCall bAll (aCons (eLc false [7] (iSeq (eVar 5)) (gName 7) tTrue (eAnd (eCmp (cIsN true) (eVar 7) (eC .none)) (eCmp cEq (eBin oMod (eVar 7) (eC (.int 2))) (eC (.int 1))))) aNil)))
  sNil)))
noncomputable def m_is_due : FA := fnR 5 8 false b_is_due
noncomputable def b_ranks : MS := (sSeq (sSet 1 (eCall bLen (aCons (eIt (eVar 0) (eC (.int 0))) aNil)))
  (sSeq (sSet 2 eDic)
  (sSeq (sSet 3 (eC (.int 0)))
  (sSeq (sWhile (tVal (eC (.bool true))) (sSeq (sSet 4 (eLc2 false [5, 6] [6] (iSeq (eC (.tuple [(.str "left"), (.str "right")]))) (gName 5) tTrue (iRng1 (aCons (eVar 1) aNil)) (gName 6) (tCmp (cIn true) (eTup (aCons (eVar 5) (aCons (eVar 6) aNil))) (eVar 2)) (eTup (aCons (eVar 5) (aCons (eVar 6) aNil)))))
  (sSeq (sSet 7 (eLc false [5, 6] (iSeq (eVar 4)) (gTup (gsLenOk 2 (gsCons (gName 5) (gsCons (gName 6) gsNil)))) (tVal (eCall m_is_due (aCons (eVar 0) (aCons (eVar 2) (aCons (eVar 5) (aCons (eVar 6) (aCons (eVar 3) aNil))))))) (eTup (aCons (eVar 5) (aCons (eVar 6) aNil)))))
  (sSeq (sIf (tAnd (tNot (tVal (eVar 7))) (tCmp cGt (eVar 3) (eBin oMul (eC (.int 2)) (eVar 1)))) (sSeq sBk
  sNil) sNil)
  (sSeq (sFor (iSeq (eVar 7)) (gName 8) (sSeq (sPu (eVar 2) (eVar 8) (eVar 3))
  sNil) [8])
  (sSeq (sAug 3 oIadd (eC (.int 1)))
  sNil))))) [4, 7, 8])
  (sSeq (sRet (eCall bTuple (aCons (eLc false [5] (iSeq (eC (.tuple [(.str "left"), (.str "right")]))) (gName 5) tTrue (eCall bTuple (aCons (eLc false [6] (iRng1 (aCons (eVar 1) aNil)) (gName 6) tTrue (eGetT (eVar 2) (aCons (eTup (aCons (eVar 5) (aCons (eVar 6) aNil))) aNil))) aNil))) aNil)))
  sNil)))))
noncomputable def m_ranks : FA := fnR 1 9 false b_ranks
noncomputable def b_rank_of : MS := (sSeq (sRet (eIt (eIt (eVar 0) (eIte (tCmp cEq (eVar 1) (eC (.str "left"))) (eC (.int 0)) (eC (.int 1)))) (eVar 2)))
  sNil)
noncomputable def m_rank_of : FA := fnR 3 3 false b_rank_of
noncomputable def b_winner : MS := (sSeq (sSet 3 (eCall m_rank_of (aCons (eCall m_ranks (aCons (eVar 0) aNil)) (aCons (eVar 2) (aCons (eVar 1) aNil)))))
  (sSeq (sIf (tCmp (cIsN false) (eVar 3) (eC .none)) (sSeq (sRet (eC (.str "drawn")))
  sNil) sNil)
  (sSeq (sRet (eIte (tCmp cEq (eBin oMod (eVar 3) (eC (.int 2))) (eC (.int 1))) (eVar 2) (eCall m_other_one (aCons (eVar 2) aNil))))
  sNil)))
noncomputable def m_winner : FA := fnR 3 4 false b_winner
noncomputable def b_is_rank : MS := (sSeq (sRet (eOr (eCmp (cIsN false) (eVar 0) (eC .none)) (eCall m_is_number (aCons (eVar 0) (aCons (eC (.int 0)) (aCons (eBin oPow (eC (.int 10)) (eC (.int 6))) aNil))))))
  sNil)
noncomputable def m_is_rank : FA := fnR 1 1 false b_is_rank
noncomputable def b_is_right : MS := (sSeq (sSet 4 (eLc false [5] (iSeq (eIt (eCall m_moves_of (aCons (eVar 0) (aCons (eVar 2) aNil))) (eVar 3))) (gName 5) tTrue (eCall m_rank_of (aCons (eVar 1) (aCons (eCall m_other_one (aCons (eVar 2) aNil)) (aCons (eVar 5) aNil))))))
  (sSeq (sSet 6 (eLc false [7] (iSeq (eVar 4)) (gName 7) (tAnd (tCmp (cIsN true) (eVar 7) (eC .none)) (tCmp cEq (eBin oMod (eVar 7) (eC (.int 2))) (eC (.int 0)))) (eVar 7)))
  (sSeq (sIf (tVal (eVar 6)) (sSeq (sRet (eCmp cEq (eCall m_rank_of (aCons (eVar 1) (aCons (eVar 2) (aCons (eVar 3) aNil)))) (eBin (oAdd false) (eCall bMinL (aCons (eVar 6) aNil)) (eC (.int 1)))))
  sNil) sNil)
  (sSeq (sIf (tVal (eCall bAny (aCons (eLc false [7] (iSeq (eVar 4)) (gName 7) tTrue (eCmp (cIsN false) (eVar 7) (eC .none))) aNil))) (sSeq (sRet (eCmp (cIsN false) (eCall m_rank_of (aCons (eVar 1) (aCons (eVar 2) (aCons (eVar 3) aNil)))) (eC .none)))
  sNil) sNil)
  (sSeq (sRet (eCmp cEq (eCall m_rank_of (aCons (eVar 1) (aCons (eVar 2) (aCons (eVar 3) aNil)))) (eCall bMaxL (aCons (eBin (oAdd false) (eLc false [7] (iSeq (eVar 4)) (gName 7) tTrue (eBin (oAdd false) (eVar 7) (eC (.int 1)))) (eLst false (aCons (eC (.int 0)) aNil))) aNil))))
  sNil)))))
noncomputable def m_is_right : FA := fnR 4 8 false b_is_right
noncomputable def b_are_ranks : MS := (sSeq (sSet 2 (eCall bLen (aCons (eIt (eVar 0) (eC (.int 0))) aNil)))
  (sSeq (sIf (tOr (tNot (tVal (eIsi .tup (eVar 1)))) (tCmp cNe (eCall bLen (aCons (eVar 1) aNil)) (eC (.int 2)))) (sSeq (sRet (eC (.bool false)))
  sNil) sNil)
  (sSeq (sIf (tNot (tVal (eCall bAll (aCons (eLc false [4] (iSeq (eVar 1)) (gName 4) tTrue (eAnd (eIsi .tup (eVar 4)) (eAnd (eCmp cEq (eCall bLen (aCons (eVar 4) aNil)) (eVar 2)) (eCall bAll (aCons (eLc false [3] (iSeq (eVar 4)) (gName 3) tTrue (eCall m_is_rank (aCons (eVar 3) aNil))) aNil))))) aNil)))) (sSeq (sRet (eC (.bool false)))
  sNil) sNil)
  (sSeq (sRet (eCall bAll (aCons (eLc2 false [5, 6] [6] (iSeq (eC (.tuple [(.str "left"), (.str "right")]))) (gName 5) tTrue (iRng1 (aCons (eVar 2) aNil)) (gName 6) tTrue (eCall m_is_right (aCons (eVar 0) (aCons (eVar 1) (aCons (eVar 5) (aCons (eVar 6) aNil)))))) aNil)))
  sNil))))
noncomputable def m_are_ranks : FA := fnR 2 7 false b_are_ranks
noncomputable def b_best_by : MS := (sSeq (sSet 4 (eCall m_rank_of (aCons (eVar 0) (aCons (eVar 3) (aCons (eVar 2) aNil)))))
  (sSeq (sFor (iSeq (eIt (eCall m_moves_of (aCons (eVar 1) (aCons (eVar 3) aNil))) (eVar 2))) (gName 5) (sSeq (sSet 6 (eCall m_rank_of (aCons (eVar 0) (aCons (eCall m_other_one (aCons (eVar 3) aNil)) (aCons (eVar 5) aNil)))))
  (sSeq (sIf (tOr (tAnd (tCmp (cIsN false) (eVar 6) (eC .none)) (tCmp (cIsN false) (eVar 4) (eC .none))) (tAnd (tCmp (cIsN true) (eVar 4) (eC .none)) (tAnd (tCmp (cIsN true) (eVar 6) (eC .none)) (tCmp cEq (eVar 6) (eBin oSub (eVar 4) (eC (.int 1))))))) (sSeq (sRet (eVar 5))
  sNil) sNil)
  sNil)) [5, 6])
  (sSeq (sRet (eC .none))
  sNil)))
noncomputable def m_best_by : FA := fnR 4 7 false b_best_by
noncomputable def b_best_move : MS := (sSeq (sRet (eCall m_best_by (aCons (eCall m_ranks (aCons (eVar 0) aNil)) (aCons (eVar 0) (aCons (eVar 1) (aCons (eVar 2) aNil))))))
  sNil)
noncomputable def m_best_move : FA := fnR 3 3 false b_best_move
noncomputable def b_line_of : MS := (sSeq (sPar [4, 5] (aCons (eLst true (aCons (eVar 1) aNil)) (aCons (eCall m_ranks (aCons (eVar 0) aNil)) aNil)))
  (sSeq (sWhile (tCmp cLe (eCall bLen (aCons (eVar 4) aNil)) (eVar 3)) (sSeq (sSet 6 (eCall m_best_by (aCons (eVar 5) (aCons (eVar 0) (aCons (eIt (eVar 4) (eNeg (eC (.int 1)))) (aCons (eVar 2) aNil))))))
  (sSeq (sIf (tCmp (cIsN false) (eVar 6) (eC .none)) (sSeq sBk
  sNil) sNil)
  (sSeq (sExpr (eMeth fApp (eVar 4) (aCons (eVar 6) aNil)))
  (sSeq (sSet 2 (eCall m_other_one (aCons (eVar 2) aNil)))
  sNil)))) [6])
  (sSeq (sRet (eCall bTuple (aCons (eVar 4) aNil)))
  sNil)))
noncomputable def m_line_of : FA := fnR 4 7 false b_line_of
noncomputable def b__law_bent (rec : FA) : MS := (sSeq (sIf (tAnd (tVal (eIsi .tup (eVar 1))) (tAnd (tCmp cGt (eCall bLen (aCons (eVar 1) aNil)) (eC (.int 0))) (tCmp cGt (eCall m__law_draw (aCons (eVar 0) (aCons (eC (.int 5)) aNil))) (eC (.int 0))))) (sSeq (sSet 2 (eCall m__law_draw (aCons (eVar 0) (aCons (eCall bLen (aCons (eVar 1) aNil)) aNil))))
  (sSeq (sRet (eBin (oAdd false) (eBin (oAdd false) (eSl false (eVar 1) oNone (oSome (eVar 2))) (eTup (aCons (eCall rec (aCons (eVar 0) (aCons (eIt (eVar 1) (eVar 2)) aNil))) aNil))) (eSl false (eVar 1) (oSome (eBin (oAdd false) (eVar 2) (eC (.int 1)))) oNone)))
  sNil)) sNil)
  (sSeq (sSet 3 (eCall m__law_draw (aCons (eVar 0) (aCons (eC (.int 8)) aNil))))
  (sSeq (sIf (tVal (eIsi .tup (eVar 1))) (sSeq (sRet (eIt (eLst false (aCons (eBin (oAdd false) (eVar 1) (eSl false (eVar 1) oNone (oSome (eC (.int 1))))) (aCons (eSl false (eVar 1) (oSome (eC (.int 1))) oNone) (aCons (eRev false (eVar 1)) (aCons (eBin (oAdd false) (eVar 1) (eTup (aCons (eC (.int 0)) aNil))) (aCons (eBin (oAdd false) (eSl false (eVar 1) oNone (oSome (eC (.int 1)))) (eVar 1)) (aCons (eSl false (eVar 1) oNone (oSome (eNeg (eC (.int 1))))) (aCons (eC .none) (aCons (eSl false (eVar 1) oNone (oSome (eC (.int 1)))) aNil))))))))) (eVar 3)))
  sNil) sNil)
  (sSeq (sIf (tAnd (tVal (eIsi .int (eVar 1))) (tNot (tVal (eIsi .bl (eVar 1))))) (sSeq (sRet (eIt (eLst false (aCons (eBin (oAdd false) (eVar 1) (eC (.int 1))) (aCons (eBin oSub (eVar 1) (eC (.int 1))) (aCons (eNeg (eVar 1)) (aCons (eCmp cEq (eVar 1) (eC (.int 1))) (aCons (eC .none) (aCons (eCall bStr (aCons (eVar 1) aNil)) (aCons (eTup (aCons (eVar 1) aNil)) (aCons (eBin (oAdd false) (eVar 1) (eC (.int 1001))) aNil))))))))) (eVar 3)))
  sNil) sNil)
  (sSeq (sIf (tVal (eIsi .str (eVar 1))) (sSeq (sRet (eIt (eLst false (aCons (eBin (oAdd false) (eVar 1) (eC (.str "a"))) (aCons (eSl false (eVar 1) (oSome (eC (.int 1))) oNone) (aCons (eC (.str "any")) (aCons (eUpper (eVar 1)) (aCons (eC (.int 0)) (aCons (eC (.str "")) (aCons (eBin (oAdd false) (eVar 1) (eC (.str "z0z0z0z0"))) (aCons (eTup (aCons (eVar 1) aNil)) aNil))))))))) (eVar 3)))
  sNil) sNil)
  (sSeq (sRet (eIt (eLst false (aCons (eC (.int 0)) (aCons (eC (.int 1)) (aCons (eC .none) (aCons (eC (.bool true)) (aCons (eC (.bool false)) (aCons (eC (.str "a")) (aCons (eTup aNil) (aCons (eNeg (eC (.int 1))) aNil))))))))) (eVar 3)))
  sNil))))))
noncomputable def m__law_bent : Nat → FA
  | 0 => fun _ _ => none
  | n + 1 => fnR 2 4 false (b__law_bent (m__law_bent n))
noncomputable def b__law_board : MS := (sSeq (sSet 2 (eBin (oAdd false) (eC (.int 1)) (eCall m__law_draw (aCons (eVar 0) (aCons (eVar 1) aNil)))))
  (sSeq (sSet 3 (eLst true aNil))
  (sSeq (sFor (iTupl (eTup (aCons (eC (.int 0)) (aCons (eC (.int 1)) aNil)))) (gName 4) (sSeq (sSet 5 (eLst true aNil))
  (sSeq (sFor (iRng1 (aCons (eVar 2) aNil)) (gName 6) (sSeq (sExpr (eMeth fApp (eVar 5) (aCons (eCall bTuple (aCons (eSrtSetI false (eLc false [7] (iRng1 (aCons (eCall m__law_draw (aCons (eVar 0) (aCons (eC (.int 4)) aNil))) aNil)) (gName 7) tTrue (eCall m__law_draw (aCons (eVar 0) (aCons (eVar 2) aNil))))) aNil)) aNil)))
  sNil) [6])
  (sSeq (sExpr (eMeth fApp (eVar 3) (aCons (eCall bTuple (aCons (eVar 5) aNil)) aNil)))
  sNil))) [4, 5, 6])
  (sSeq (sRet (eCall bTuple (aCons (eVar 3) aNil)))
  sNil))))
noncomputable def m__law_board : FA := fnR 2 8 false b__law_board
noncomputable def b__law_other : MS := (sSeq (sRet (eIte (tCmp cEq (eVar 0) (eC (.str "left"))) (eC (.str "right")) (eC (.str "left"))))
  sNil)
noncomputable def m__law_other : FA := fnR 1 1 false b__law_other
noncomputable def b__law_moves : MS := (sSeq (sRet (eIt (eIt (eVar 0) (eIte (tCmp cEq (eVar 2) (eC (.str "left"))) (eC (.int 0)) (eC (.int 1)))) (eVar 1)))
  sNil)
noncomputable def m__law_moves : FA := fnR 3 3 false b__law_moves
noncomputable def b__law_ranks : MS := (sSeq (sPar [1, 2] (aCons (eCall bLen (aCons (eIt (eVar 0) (eC (.int 0))) aNil)) (aCons eDic aNil)))
  (sSeq (sFor (iRng1 (aCons (eBin (oAdd false) (eBin oMul (eC (.int 2)) (eVar 1)) (eC (.int 2))) aNil)) (gName 3) (sSeq (sSet 4 (eLst true aNil))
  (sSeq (sFor (iRng1 (aCons (eVar 1) aNil)) (gName 5) (sSeq (sFor (iTupl (eTup (aCons (eC (.str "left")) (aCons (eC (.str "right")) aNil)))) (gName 6) (sSeq (sIf (tCmp (cIn true) (eTup (aCons (eVar 5) (aCons (eVar 6) aNil))) (eVar 2)) (sSeq (sSet 7 (eLc false [8] (iSeq (eCall m__law_moves (aCons (eVar 0) (aCons (eVar 5) (aCons (eVar 6) aNil))))) (gName 8) tTrue (eGetT (eVar 2) (aCons (eTup (aCons (eVar 8) (aCons (eCall m__law_other (aCons (eVar 6) aNil)) aNil))) aNil))))
  (sSeq (sSet 9 (eCall bAny (aCons (eLc false [10] (iSeq (eVar 7)) (gName 10) tTrue (eAnd (eCmp (cIsN true) (eVar 10) (eC .none)) (eCmp cEq (eBin oMul (eBin oDiv (eVar 10) (eC (.int 2))) (eC (.int 2))) (eVar 10)))) aNil)))
  (sSeq (sSet 11 (eCall bAll (aCons (eLc false [10] (iSeq (eVar 7)) (gName 10) tTrue (eAnd (eCmp (cIsN true) (eVar 10) (eC .none)) (eCmp cNe (eBin oMul (eBin oDiv (eVar 10) (eC (.int 2))) (eC (.int 2))) (eVar 10)))) aNil)))
  (sSeq (sIf (tOr (tVal (eVar 9)) (tVal (eVar 11))) (sSeq (sExpr (eMeth fApp (eVar 4) (aCons (eTup (aCons (eVar 5) (aCons (eVar 6) aNil))) aNil)))
  sNil) sNil)
  sNil)))) sNil)
  sNil) [7, 9, 11])
  sNil) [7, 9, 11])
  (sSeq (sFor (iSeq (eVar 4)) (gName 12) (sSeq (sPu (eVar 2) (eVar 12) (eVar 3))
  sNil) [12])
  sNil))) [3, 4, 7, 9, 11, 12])
  (sSeq (sRet (eCall bTuple (aCons (eLc false [6] (iTupl (eTup (aCons (eC (.str "left")) (aCons (eC (.str "right")) aNil)))) (gName 6) tTrue (eCall bTuple (aCons (eLc false [5] (iRng1 (aCons (eVar 1) aNil)) (gName 5) tTrue (eGetT (eVar 2) (aCons (eTup (aCons (eVar 5) (aCons (eVar 6) aNil))) aNil))) aNil))) aNil)))
  sNil)))
noncomputable def m__law_ranks : FA := fnR 1 13 false b__law_ranks
theorem lc2L_pureF {α β : Type} {enc : α → D} {enc2 : β → D} {l2 : α → List β} (f : α → β → PyData) (p : α → β → Bool) {k : Nat} {g : MG} {mi1 : MI} {g1 : MG} {mt1 : MT} {el : ME} {vs1 : List Nat} {e0 : Lo} {s : Sto} (hk : k = s.length) : ∀ (l : List α) (acc : List D),
    (∀ x ∈ l, ∀ acc, ∃ e1, g (enc x) e0 = some e1 ∧ mi1 e1 (s ++ [.lst acc]) = some ((l2 x).map enc2, none, s ++ [.lst acc]) ∧ ∀ y ∈ l2 x, ∀ acc, ∃ e2, g1 (enc2 y) (wipeN e1 vs1) = some e2 ∧ mt1 e2 (s ++ [.lst acc]) = some (p x y, s ++ [.lst acc]) ∧ (p x y = true → el e2 (s ++ [.lst acc]) = some (.d (f x y), s ++ [.lst acc]))) →
    acc.length + (l.flatMap l2).length ≤ lim → lc2L k none g tTrue mi1 g1 mt1 el vs1 e0 (l.map enc) (s ++ [.lst acc]) = some (s ++ [.lst (acc ++ (l.flatMap fun x => ((l2 x).filter (p x)).map (f x)).map D.d)])
  | [], acc, h, hl => by
    rw [List.map_nil]
    unfold lc2L
    rw [if_pos (ck_none _)]
    simp
  | x :: l, acc, h, hl => by
    obtain ⟨e1, h1, h2, h3⟩ := h x List.mem_cons_self acc
    rw [List.map_cons]
    unfold lc2L
    rw [if_pos (ck_none _)]
    rw [List.flatMap_cons, List.length_append] at hl
    have h4 := lcL_pure (k := k) (g := g1) (mt := mt1) (el := el) (e0 := wipeN e1 vs1) (enc := enc2) (fun y => D.d (f x y)) (p x) (s := s) hk (fun _ => ck_none _) (l2 x) acc (fun y hy acc => h3 y hy acc) (by omega)
    simp only [h1, tTrue, h2]
    rw [h4]
    simp only []
    have hfl := List.length_filter_le (p x) (l2 x)
    have := lc2L_pureF (enc := enc) (enc2 := enc2) (l2 := l2) f p (k := k) (g := g) (mi1 := mi1) (g1 := g1) (mt1 := mt1) (el := el) (vs1 := vs1) (e0 := e0) (s := s) hk l (acc ++ ((l2 x).filter (p x)).map fun y => D.d (f x y)) (fun y hy acc => h y (List.mem_cons_of_mem _ hy) acc) (by rw [List.length_append, List.length_map]; omega)
    rw [this]
    simp [Function.comp_def]
theorem R_lc2F {α β : Type} (l : List α) (enc : α → D) (l2 : α → List β) (enc2 : β → D) (f : α → β → PyData) (p : α → β → Bool) {vs vs1 : List Nat} {mi mi1 : MI} {g g1 : MG} {mt1 : MT} {el : ME} {e : Lo} {s : Sto} {Q : D → Sto → Prop} (hi : Ri (mi e s) fun items ck s1 => items = l.map enc ∧ ck = none ∧ s1 = s)
    (h : ∀ x ∈ l, ∀ acc, Rc (g (enc x) (wipeN e vs)) fun e1 => Ri (mi1 e1 (s ++ [.lst acc])) (fun items ck s2 => items = (l2 x).map enc2 ∧ ck = none ∧ s2 = s ++ [.lst acc]) ∧ ∀ y ∈ l2 x, ∀ acc, Rc (g1 (enc2 y) (wipeN e1 vs1)) fun e2 => R (mt1 e2 (s ++ [.lst acc])) fun b s2 => b = p x y ∧ s2 = s ++ [.lst acc] ∧ (p x y = true → R (el e2 (s ++ [.lst acc])) fun d s3 => d = .d (f x y) ∧ s3 = s ++ [.lst acc]))
    (hl : (l.flatMap l2).length ≤ lim) (q : Q (.d (.list (l.flatMap fun x => ((l2 x).filter (p x)).map (f x)))) s) : R (eLc2 false vs vs1 mi g tTrue mi1 g1 mt1 el e s) Q := by
  obtain ⟨_, _, _, h1, rfl, rfl, rfl⟩ := hi
  refine R.of (x := .d (.list (l.flatMap fun x => ((l2 x).filter (p x)).map (f x)))) ?_ q
  unfold eLc2
  simp only [h1]
  rename_i s1
  rw [lc2L_pureF (l2 := l2) (enc := enc) (enc2 := enc2) f p (s := s1) rfl l [] (fun x hx acc => by
    obtain ⟨e1, a1, a2, a3⟩ := h x hx acc
    obtain ⟨_, _, _, a4, rfl, rfl, rfl⟩ := a2
    refine ⟨e1, a1, a4, fun y hy acc => ?_⟩
    obtain ⟨e2, b1, b, s2, b2, rfl, rfl, b3⟩ := a3 y hy acc
    refine ⟨e2, b1, b2, fun hp => ?_⟩
    obtain ⟨d, s3, b4, rfl, rfl⟩ := b3 hp
    exact b4) (by simpa using hl)]
  simp only [List.nil_append]
  exact lcFin_d _ _
theorem R_getT {ma : ME} {ms : MA} {e : Lo} {s : Sto} {j : Nat} {kvs : List (PyData × D)} {x : PyData} {Q : D → Sto → Prop} (hm : ma e s = some (.r j, s)) (hj : s[j]? = some (.dic kvs)) (hs : R (ms e s) fun ds s1 => ds = [.d x] ∧ s1 = s) (hk : isKey x = true) (q : Q ((dGet kvs x).getD (.d .none)) s) : R (eGetT ma ms e s) Q := by
  obtain ⟨_, _, h1, rfl, rfl⟩ := hs
  unfold eGetT
  simp only [hm, hj, h1, hk, if_true]
  cases h : dGet kvs x with
  | some d =>
    rw [h] at q
    simp only [R_some]
    exact q
  | none =>
    rw [h] at q
    simp only [R_some]
    exact q
theorem get_DGn {α : Type} [DecidableEq α] {kf : α → PyData} {vf : α → D} (inj : ∀ a b, kf a = kf b → a = b) {M : List α} {a : α} (hm : a ∉ M) : dGet (DG kf vf M) (kf a) = none := by
  unfold dGet DG
  induction M with
  | nil => rfl
  | cons x M ih =>
    rw [List.map_cons, List.find?_cons]
    have : decide (kf x = kf a) = false := decide_eq_false fun h => hm (by rw [inj _ _ h]; exact List.mem_cons_self)
    simp only [this]
    exact ih fun h => hm (List.mem_cons_of_mem _ h)
def sideD (rows : List (List Nat)) : PyData := .tuple (rows.map tup)
def bdD (a b : List (List Nat)) : PyData := .tuple [sideD a, sideD b]
structure Bd (n : Nat) (a b : List (List Nat)) : Prop where
  n1 : 1 ≤ n
  n40 : n ≤ 40
  la : a.length = n
  lb : b.length = n
  lt : ∀ r, r ∈ a ∨ r ∈ b → ∀ j ∈ r, j < n
  ll : ∀ r, r ∈ a ∨ r ∈ b → r.length ≤ 40
def mvB (a b : List (List Nat)) (w : Bool) (i : Nat) : List Nat := if w then a.getD i [] else b.getD i []
def whoS (w : Bool) : Str := if w then "left" else "right"
def encR : Option Nat → PyData
  | some t => .int (t : Nat)
  | none => .none
theorem encR_inj {a b : Option Nat} (h : encR a = encR b) : a = b := by
  cases a <;> cases b <;> simp [encR] at h
  · rfl
  · congr 1; omega
theorem who_ne : (whoS true : Str) ≠ whoS false := by decide
theorem who_inj {a b : Bool} (h : whoS a = whoS b) : a = b := by
  cases a <;> cases b <;> first | rfl | exact absurd h who_ne | exact absurd h.symm who_ne
theorem who_left (w : Bool) : decide (whoS w = ("left" : Str)) = w := by cases w <;> decide
section
variable {n : Nat} {a b : List (List Nat)}
theorem Bd.side (h : Bd n a b) (w : Bool) : (if w then a else b).length = n := by
  cases w
  · exact h.lb
  · exact h.la
theorem mv_eq (a b : List (List Nat)) (w : Bool) (i : Nat) : mvB a b w i = (if w then a else b).getD i [] := by
  cases w <;> rfl
theorem Bd.mem (h : Bd n a b) {w : Bool} {i : Nat} (hi : i < n) : mvB a b w i ∈ a ∨ mvB a b w i ∈ b := by
  rw [mv_eq, List.getD_eq_getElem?_getD, List.getElem?_eq_getElem (by rw [h.side w]; exact hi), Option.getD_some]
  cases w
  · exact .inr (List.getElem_mem _)
  · exact .inl (List.getElem_mem _)
theorem Bd.ok (h : Bd n a b) : MvOk n (mvB a b) := ⟨fun w i hi j hj => h.lt _ (h.mem hi) j hj⟩
theorem Bd.len (h : Bd n a b) {w : Bool} {i : Nat} (hi : i < n) : (mvB a b w i).length ≤ 40 := h.ll _ (h.mem hi)
theorem Bd.turn (h : Bd n a b) : Bd n b a := ⟨h.n1, h.n40, h.lb, h.la, fun r hr => h.lt r hr.symm, fun r hr => h.ll r hr.symm⟩
theorem mv_turn (a b : List (List Nat)) : mvB b a = fun w i => mvB a b (!w) i := by
  funext w i
  cases w <;> rfl
theorem it_bd0 (a b : List (List Nat)) (s : Sto) : itF s (.d (bdD a b)) (.d (.int 0)) = some (.d (sideD a)) := itF_t rfl
theorem it_bd1 (a b : List (List Nat)) (s : Sto) : itF s (.d (bdD a b)) (.d (.int 1)) = some (.d (sideD b)) := itF_t rfl
theorem it_side (rows : List (List Nat)) {i : Nat} (h : i < rows.length) (s : Sto) : itF s (.d (sideD rows)) (.d (.int (i : Nat))) = some (.d (tup (rows.getD i []))) := by
  refine itF_t (atI_nat ?_)
  rw [List.getElem?_map, List.getElem?_eq_getElem h, List.getD_eq_getElem?_getD, List.getElem?_eq_getElem h]
  rfl
theorem len_side (rows : List (List Nat)) (s : Sto) : bLen s [.d (sideD rows)] = some (.d (.int (rows.length : Nat)), s) := by
  have := len_t (s := s) (xs := rows.map tup)
  rwa [List.length_map] at this
theorem other_ok (w : Bool) (s : Sto) : m_other_one s [.d (.str (whoS w))] = some (.d (.str (whoS (!w))), s) := by
  apply R.eq
  unfold m_other_one b_other_one
  rw [R_fn]
  refine ⟨rfl, ?_⟩
  simp only [List.map_cons, List.map_nil, List.cons_append, List.nil_append, List.length_cons, List.length_nil, Nat.reduceSub, Nat.reduceAdd, List.replicate_succ, List.replicate_zero]
  rw [Rs_seq, Rs_ret]
  simp only [Rs_nil, R_call, R_cons, R_nil, R_Var, R_C, R_bin, R_cmp, R_tcmp, R_tOr, R_tAnd, R_tNot, R_tVal, R_tTrue, R_ite, R_eAnd, R_eOr, R_eNot, R_neg, R_tup, R_isi, R_some, Rc_some, N.v_eq, N.v_ne, N.v_lt, N.v_le, N.v_gt, N.v_ge, N.v_add, N.v_sub, N.v_iadd, N.v_xor, N.v_int, N.tru_b, N.pd_d, N.data_nil, N.data_cons, N.len_t, N.v_tupT, N.g_name, N.isNone_n, N.isNone_t, N.isNone_i, N.v_isN, N.v_isNn, N.v_eqB, N.v_neB, List.set_cons_succ, List.set_cons_zero, List.getElem?_cons_succ, List.getElem?_cons_zero, Bool.not_true, Bool.not_false, Bool.false_eq_true, Bool.true_eq_false, eq_self, true_implies, false_implies, true_and, and_true, decide_true, decide_false, Int.zero_add, N.R_sl, N.R_it, R_oNone, R_oSome, wipeN, N.R_lst, N.R_mkF, N.R_mkT, N.R_meth, N.v_addT, Ri_rng1, Ri_rng2, Ri_seq, v_eqS, who_left]
  cases w <;> simp [thn_rt, R_retd, whoS]
theorem lother_ok (w : Bool) (s : Sto) : m__law_other s [.d (.str (whoS w))] = some (.d (.str (whoS (!w))), s) := by
  apply R.eq
  unfold m__law_other b__law_other
  rw [R_fn]
  refine ⟨rfl, ?_⟩
  simp only [List.map_cons, List.map_nil, List.cons_append, List.nil_append, List.length_cons, List.length_nil, Nat.reduceSub, Nat.reduceAdd, List.replicate_succ, List.replicate_zero]
  rw [Rs_seq, Rs_ret]
  simp only [Rs_nil, R_call, R_cons, R_nil, R_Var, R_C, R_bin, R_cmp, R_tcmp, R_tOr, R_tAnd, R_tNot, R_tVal, R_tTrue, R_ite, R_eAnd, R_eOr, R_eNot, R_neg, R_tup, R_isi, R_some, Rc_some, N.v_eq, N.v_ne, N.v_lt, N.v_le, N.v_gt, N.v_ge, N.v_add, N.v_sub, N.v_iadd, N.v_xor, N.v_int, N.tru_b, N.pd_d, N.data_nil, N.data_cons, N.len_t, N.v_tupT, N.g_name, N.isNone_n, N.isNone_t, N.isNone_i, N.v_isN, N.v_isNn, N.v_eqB, N.v_neB, List.set_cons_succ, List.set_cons_zero, List.getElem?_cons_succ, List.getElem?_cons_zero, Bool.not_true, Bool.not_false, Bool.false_eq_true, Bool.true_eq_false, eq_self, true_implies, false_implies, true_and, and_true, decide_true, decide_false, Int.zero_add, N.R_sl, N.R_it, R_oNone, R_oSome, wipeN, N.R_lst, N.R_mkF, N.R_mkT, N.R_meth, N.v_addT, Ri_rng1, Ri_rng2, Ri_seq, v_eqS, who_left]
  cases w <;> simp [thn_rt, R_retd, whoS]
theorem mof_ok (a b : List (List Nat)) (w : Bool) (s : Sto) : m_moves_of s [.d (bdD a b), .d (.str (whoS w))] = some (.d (sideD (if w then a else b)), s) := by
  apply R.eq
  unfold m_moves_of b_moves_of
  rw [R_fn]
  refine ⟨rfl, ?_⟩
  simp only [List.map_cons, List.map_nil, List.cons_append, List.nil_append, List.length_cons, List.length_nil, Nat.reduceSub, Nat.reduceAdd, List.replicate_succ, List.replicate_zero]
  rw [Rs_seq, Rs_ret]
  simp only [Rs_nil, R_call, R_cons, R_nil, R_Var, R_C, R_bin, R_cmp, R_tcmp, R_tOr, R_tAnd, R_tNot, R_tVal, R_tTrue, R_ite, R_eAnd, R_eOr, R_eNot, R_neg, R_tup, R_isi, R_some, Rc_some, N.v_eq, N.v_ne, N.v_lt, N.v_le, N.v_gt, N.v_ge, N.v_add, N.v_sub, N.v_iadd, N.v_xor, N.v_int, N.tru_b, N.pd_d, N.data_nil, N.data_cons, N.len_t, N.v_tupT, N.g_name, N.isNone_n, N.isNone_t, N.isNone_i, N.v_isN, N.v_isNn, N.v_eqB, N.v_neB, List.set_cons_succ, List.set_cons_zero, List.getElem?_cons_succ, List.getElem?_cons_zero, Bool.not_true, Bool.not_false, Bool.false_eq_true, Bool.true_eq_false, eq_self, true_implies, false_implies, true_and, and_true, decide_true, decide_false, Int.zero_add, N.R_sl, N.R_it, R_oNone, R_oSome, wipeN, N.R_lst, N.R_mkF, N.R_mkT, N.R_meth, N.v_addT, Ri_rng1, Ri_rng2, Ri_seq, v_eqS, who_left, it_bd0, it_bd1]
  cases w <;> simp [thn_rt, R_retd]
theorem lmv_ok (h : Bd n a b) (w : Bool) {i : Nat} (hi : i < n) (s : Sto) : m__law_moves s [.d (bdD a b), .d (.int (i : Nat)), .d (.str (whoS w))] = some (.d (tup (mvB a b w i)), s) := by
  apply R.eq
  unfold m__law_moves b__law_moves
  rw [R_fn]
  refine ⟨rfl, ?_⟩
  simp only [List.map_cons, List.map_nil, List.cons_append, List.nil_append, List.length_cons, List.length_nil, Nat.reduceSub, Nat.reduceAdd, List.replicate_succ, List.replicate_zero]
  rw [Rs_seq, Rs_ret]
  simp only [Rs_nil, R_call, R_cons, R_nil, R_Var, R_C, R_bin, R_cmp, R_tcmp, R_tOr, R_tAnd, R_tNot, R_tVal, R_tTrue, R_ite, R_eAnd, R_eOr, R_eNot, R_neg, R_tup, R_isi, R_some, Rc_some, N.v_eq, N.v_ne, N.v_lt, N.v_le, N.v_gt, N.v_ge, N.v_add, N.v_sub, N.v_iadd, N.v_xor, N.v_int, N.tru_b, N.pd_d, N.data_nil, N.data_cons, N.len_t, N.v_tupT, N.g_name, N.isNone_n, N.isNone_t, N.isNone_i, N.v_isN, N.v_isNn, N.v_eqB, N.v_neB, List.set_cons_succ, List.set_cons_zero, List.getElem?_cons_succ, List.getElem?_cons_zero, Bool.not_true, Bool.not_false, Bool.false_eq_true, Bool.true_eq_false, eq_self, true_implies, false_implies, true_and, and_true, decide_true, decide_false, Int.zero_add, N.R_sl, N.R_it, R_oNone, R_oSome, wipeN, N.R_lst, N.R_mkF, N.R_mkT, N.R_meth, N.v_addT, Ri_rng1, Ri_rng2, Ri_seq, v_eqS, who_left]
  cases w
  · simp only [Rs_nil, R_call, R_cons, R_nil, R_Var, R_C, R_bin, R_cmp, R_tcmp, R_tOr, R_tAnd, R_tNot, R_tVal, R_tTrue, R_ite, R_eAnd, R_eOr, R_eNot, R_neg, R_tup, R_isi, R_some, Rc_some, N.v_eq, N.v_ne, N.v_lt, N.v_le, N.v_gt, N.v_ge, N.v_add, N.v_sub, N.v_iadd, N.v_xor, N.v_int, N.tru_b, N.pd_d, N.data_nil, N.data_cons, N.len_t, N.v_tupT, N.g_name, N.isNone_n, N.isNone_t, N.isNone_i, N.v_isN, N.v_isNn, N.v_eqB, N.v_neB, List.set_cons_succ, List.set_cons_zero, List.getElem?_cons_succ, List.getElem?_cons_zero, Bool.not_true, Bool.not_false, Bool.false_eq_true, Bool.true_eq_false, eq_self, true_implies, false_implies, true_and, and_true, decide_true, decide_false, Int.zero_add, N.R_sl, N.R_it, R_oNone, R_oSome, wipeN, N.R_lst, N.R_mkF, N.R_mkT, N.R_meth, N.v_addT, Ri_rng1, Ri_rng2, Ri_seq, it_bd1, it_side b (show i < b.length by rw [h.lb]; exact hi)]
    rw [thn_rt]
    exact R_retd.mpr ⟨rfl, by simp⟩
  · simp only [Rs_nil, R_call, R_cons, R_nil, R_Var, R_C, R_bin, R_cmp, R_tcmp, R_tOr, R_tAnd, R_tNot, R_tVal, R_tTrue, R_ite, R_eAnd, R_eOr, R_eNot, R_neg, R_tup, R_isi, R_some, Rc_some, N.v_eq, N.v_ne, N.v_lt, N.v_le, N.v_gt, N.v_ge, N.v_add, N.v_sub, N.v_iadd, N.v_xor, N.v_int, N.tru_b, N.pd_d, N.data_nil, N.data_cons, N.len_t, N.v_tupT, N.g_name, N.isNone_n, N.isNone_t, N.isNone_i, N.v_isN, N.v_isNn, N.v_eqB, N.v_neB, List.set_cons_succ, List.set_cons_zero, List.getElem?_cons_succ, List.getElem?_cons_zero, Bool.not_true, Bool.not_false, Bool.false_eq_true, Bool.true_eq_false, eq_self, true_implies, false_implies, true_and, and_true, decide_true, decide_false, Int.zero_add, N.R_sl, N.R_it, R_oNone, R_oSome, wipeN, N.R_lst, N.R_mkF, N.R_mkT, N.R_meth, N.v_addT, Ri_rng1, Ri_rng2, Ri_seq, it_bd0, it_side a (show i < a.length by rw [h.la]; exact hi)]
    rw [thn_rt]
    exact R_retd.mpr ⟨rfl, by simp⟩
def rowR (n : Nat) (f : Bool → Nat → Option Nat) (w : Bool) : PyData := .tuple ((List.range n).map fun i => encR (f w i))
def rksD (n : Nat) (f : Bool → Nat → Option Nat) : PyData := .tuple [rowR n f true, rowR n f false]
theorem it_rowR {f : Bool → Nat → Option Nat} {w : Bool} {i : Nat} (hi : i < n) (s : Sto) : itF s (.d (rowR n f w)) (.d (.int (i : Nat))) = some (.d (encR (f w i))) := by
  refine itF_t (atI_nat ?_)
  rw [List.getElem?_map, List.getElem?_range hi]
  rfl
theorem it_rks0 (f : Bool → Nat → Option Nat) (s : Sto) : itF s (.d (rksD n f)) (.d (.int 0)) = some (.d (rowR n f true)) := itF_t rfl
theorem it_rks1 (f : Bool → Nat → Option Nat) (s : Sto) : itF s (.d (rksD n f)) (.d (.int 1)) = some (.d (rowR n f false)) := itF_t rfl
theorem rank_of_ok (f : Bool → Nat → Option Nat) (w : Bool) {i : Nat} (hi : i < n) (s : Sto) : m_rank_of s [.d (rksD n f), .d (.str (whoS w)), .d (.int (i : Nat))] = some (.d (encR (f w i)), s) := by
  apply R.eq
  unfold m_rank_of b_rank_of
  rw [R_fn]
  refine ⟨rfl, ?_⟩
  simp only [List.map_cons, List.map_nil, List.cons_append, List.nil_append, List.length_cons, List.length_nil, Nat.reduceSub, Nat.reduceAdd, List.replicate_succ, List.replicate_zero]
  rw [Rs_seq, Rs_ret]
  simp only [Rs_nil, R_call, R_cons, R_nil, R_Var, R_C, R_bin, R_cmp, R_tcmp, R_tOr, R_tAnd, R_tNot, R_tVal, R_tTrue, R_ite, R_eAnd, R_eOr, R_eNot, R_neg, R_tup, R_isi, R_some, Rc_some, N.v_eq, N.v_ne, N.v_lt, N.v_le, N.v_gt, N.v_ge, N.v_add, N.v_sub, N.v_iadd, N.v_xor, N.v_int, N.tru_b, N.pd_d, N.data_nil, N.data_cons, N.len_t, N.v_tupT, N.g_name, N.isNone_n, N.isNone_t, N.isNone_i, N.v_isN, N.v_isNn, N.v_eqB, N.v_neB, List.set_cons_succ, List.set_cons_zero, List.getElem?_cons_succ, List.getElem?_cons_zero, Bool.not_true, Bool.not_false, Bool.false_eq_true, Bool.true_eq_false, eq_self, true_implies, false_implies, true_and, and_true, decide_true, decide_false, Int.zero_add, N.R_sl, N.R_it, R_oNone, R_oSome, wipeN, N.R_lst, N.R_mkF, N.R_mkT, N.R_meth, N.v_addT, Ri_rng1, Ri_rng2, Ri_seq, v_eqS, who_left]
  cases w
  · simp only [Rs_nil, R_call, R_cons, R_nil, R_Var, R_C, R_bin, R_cmp, R_tcmp, R_tOr, R_tAnd, R_tNot, R_tVal, R_tTrue, R_ite, R_eAnd, R_eOr, R_eNot, R_neg, R_tup, R_isi, R_some, Rc_some, N.v_eq, N.v_ne, N.v_lt, N.v_le, N.v_gt, N.v_ge, N.v_add, N.v_sub, N.v_iadd, N.v_xor, N.v_int, N.tru_b, N.pd_d, N.data_nil, N.data_cons, N.len_t, N.v_tupT, N.g_name, N.isNone_n, N.isNone_t, N.isNone_i, N.v_isN, N.v_isNn, N.v_eqB, N.v_neB, List.set_cons_succ, List.set_cons_zero, List.getElem?_cons_succ, List.getElem?_cons_zero, Bool.not_true, Bool.not_false, Bool.false_eq_true, Bool.true_eq_false, eq_self, true_implies, false_implies, true_and, and_true, decide_true, decide_false, Int.zero_add, N.R_sl, N.R_it, R_oNone, R_oSome, wipeN, N.R_lst, N.R_mkF, N.R_mkT, N.R_meth, N.v_addT, Ri_rng1, Ri_rng2, Ri_seq, it_rks1, it_rowR hi]
    rw [thn_rt]
    exact R_retd.mpr ⟨rfl, by simp⟩
  · simp only [Rs_nil, R_call, R_cons, R_nil, R_Var, R_C, R_bin, R_cmp, R_tcmp, R_tOr, R_tAnd, R_tNot, R_tVal, R_tTrue, R_ite, R_eAnd, R_eOr, R_eNot, R_neg, R_tup, R_isi, R_some, Rc_some, N.v_eq, N.v_ne, N.v_lt, N.v_le, N.v_gt, N.v_ge, N.v_add, N.v_sub, N.v_iadd, N.v_xor, N.v_int, N.tru_b, N.pd_d, N.data_nil, N.data_cons, N.len_t, N.v_tupT, N.g_name, N.isNone_n, N.isNone_t, N.isNone_i, N.v_isN, N.v_isNn, N.v_eqB, N.v_neB, List.set_cons_succ, List.set_cons_zero, List.getElem?_cons_succ, List.getElem?_cons_zero, Bool.not_true, Bool.not_false, Bool.false_eq_true, Bool.true_eq_false, eq_self, true_implies, false_implies, true_and, and_true, decide_true, decide_false, Int.zero_add, N.R_sl, N.R_it, R_oNone, R_oSome, wipeN, N.R_lst, N.R_mkF, N.R_mkT, N.R_meth, N.v_addT, Ri_rng1, Ri_rng2, Ri_seq, it_rks0, it_rowR hi]
    rw [thn_rt]
    exact R_retd.mpr ⟨rfl, by simp⟩
end
end N

namespace N
open PySem L2 PyProof.Rows

theorem rng0N {m : Int} {n : Nat} (h : m = (n : Nat)) : rngD 0 m.toNat = (List.range n).map fun k => .d (.int (k : Nat)) := by
  subst h
  unfold rngD
  refine List.map_congr_left fun k _ => ?_
  rw [Int.zero_add]
def kP (p : Bool × Nat) : PyData := .tuple [.str (whoS p.1), .int (p.2 : Nat)]
def kL (p : Bool × Nat) : PyData := .tuple [.int (p.2 : Nat), .str (whoS p.1)]
theorem kP_inj : ∀ p q : Bool × Nat, kP p = kP q → p = q := fun p q h => by
  unfold kP at h
  simp only [PyData.tuple.injEq, List.cons.injEq, PyData.str.injEq, PyData.int.injEq, and_true] at h
  exact Prod.ext (who_inj h.1) (by omega)
theorem kL_inj : ∀ p q : Bool × Nat, kL p = kL q → p = q := fun p q h => by
  unfold kL at h
  simp only [PyData.tuple.injEq, List.cons.injEq, PyData.str.injEq, PyData.int.injEq, and_true] at h
  exact Prod.ext (who_inj h.2) (by omega)
theorem key_kP (p : Bool × Nat) : isKey (kP p) = true := rfl
theorem key_kL (p : Bool × Nat) : isKey (kL p) = true := rfl
noncomputable def vRk (n : Nat) (mv : Bool → Nat → List Nat) (p : Bool × Nat) : D := .d (encR (rkB n mv p.1 p.2))
noncomputable abbrev cRk (kf : Bool × Nat → PyData) (n : Nat) (mv : Bool → Nat → List Nat) (M : List (Bool × Nat)) : Cell := .dic (DG kf (vRk n mv) M)
structure MR (n : Nat) (mv : Bool → Nat → List Nat) (r : Nat) (M : List (Bool × Nat)) : Prop where
  nd : M.Nodup
  mem : ∀ p, p ∈ M ↔ p.2 < n ∧ (stg mv r p.1 p.2).isSome = true
section
variable {n : Nat} {mv : Bool → Nat → List Nat} {r : Nat} {M : List (Bool × Nat)}
theorem MR.few (m : MR n mv r M) : M.length ≤ 2 * n := by
  have := nodup_le (m := ptsB n) m.nd fun p hp => mem_ptsB.mpr ((m.mem p).mp hp).1
  rwa [len_ptsB] at this
theorem MR.nil : MR n mv 0 [] := ⟨List.nodup_nil, fun p => by simp [stg]⟩
theorem MR.get {kf : Bool × Nat → PyData} (inj : ∀ p q, kf p = kf q → p = q) (ok : MvOk n mv) (m : MR n mv r M) {w : Bool} {i : Nat} (hi : i < n) : (dGet (DG kf (vRk n mv) M) (kf (w, i))).getD (.d .none) = .d (encR (stg mv r w i)) := by
  cases e : stg mv r w i with
  | none =>
    rw [get_DGn inj fun h => by have := ((m.mem _).mp h).2; rw [e] at this; cases this]
    rfl
  | some t =>
    rw [get_DG inj ((m.mem (w, i)).mpr ⟨hi, by rw [e]; rfl⟩), Option.getD_some]
    unfold vRk
    rw [rk_le ok hi e]
theorem MR.has {kf : Bool × Nat → PyData} (inj : ∀ p q, kf p = kf q → p = q) (m : MR n mv r M) {w : Bool} {i : Nat} (hi : i < n) : dHas (DG kf (vRk n mv) M) (kf (w, i)) = (stg mv r w i).isSome := by
  by_cases hm : (w, i) ∈ M
  · rw [has_DG inj]
    have h1 := ((m.mem _).mp hm).2
    simp only at h1
    rw [h1]
    simpa using hm
  · rw [has_DG inj]
    have h0 : stg mv r w i = none := by
      cases e : stg mv r w i with
      | none => rfl
      | some t => exact absurd ((m.mem (w, i)).mpr ⟨hi, by rw [e]; rfl⟩) hm
    rw [h0]
    simpa using hm
/-- a stage more -/
def newB (n : Nat) (mv : Bool → Nat → List Nat) (r : Nat) (l : List (Bool × Nat)) : List (Bool × Nat) := l.filter fun p => !(stg mv r p.1 p.2).isSome && dueB mv (stg mv r) p.1 p.2
theorem MR.step (m : MR n mv r M) {l : List (Bool × Nat)} (nd : l.Nodup) (hl : ∀ p, p ∈ l ↔ p.2 < n) : MR n mv (r + 1) (M ++ newB n mv r l) := by
  have hn : ∀ p, p ∈ newB n mv r l ↔ p.2 < n ∧ stg mv r p.1 p.2 = none ∧ dueB mv (stg mv r) p.1 p.2 = true := fun p => by
    unfold newB
    rw [List.mem_filter, hl, Bool.and_eq_true, Bool.not_eq_true', Option.isSome_eq_false_iff, Option.isNone_iff_eq_none]
  refine ⟨?_, fun p => ?_⟩
  · rw [List.nodup_append]
    refine ⟨m.nd, nd.sublist List.filter_sublist, fun a ha b hb e => ?_⟩
    subst e
    have h1 := ((m.mem a).mp ha).2
    rw [((hn a).mp hb).2.1] at h1
    cases h1
  · rw [List.mem_append, m.mem, hn, stg_succ]
    cases e : stg mv r p.1 p.2 with
    | some t => simp
    | none =>
      cases hd : dueB mv (stg mv r) p.1 p.2 with
      | true => simp
      | false => simp
theorem MR.rk (ok : MvOk n mv) {p : Bool × Nat} {l : List (Bool × Nat)} (hl : ∀ p, p ∈ l ↔ p.2 < n) (h : p ∈ newB n mv r l) : rkB n mv p.1 p.2 = some r := by
  unfold newB at h
  rw [List.mem_filter, hl, Bool.and_eq_true, Bool.not_eq_true', Option.isSome_eq_false_iff, Option.isNone_iff_eq_none] at h
  refine rk_le ok (r := r + 1) h.1 ?_
  rw [stg_succ, h.2.1]
  simp only [h.2.2, if_true]
end
theorem pk_encR (o : Option Nat) : pk (encR o) = true := by cases o <;> rfl
theorem pks_encR (l : List (Option Nat)) : pks (l.map encR) = true := pks_iff.mpr fun x hx => by
  obtain ⟨o, _, rfl⟩ := List.mem_map.mp hx
  exact pk_encR o
theorem depth_encR (o : Option Nat) : (encR o).depth = 0 := by cases o <;> rfl
theorem in_rkL {neg : Bool} {l : List (Option Nat)} {o : Option Nat} {s : Sto} : cIn neg s (.d (encR o)) (.d (.list (l.map encR))) = some (if neg then !decide (o ∈ l) else decide (o ∈ l)) := by
  rw [v_inL (x := encR o) rfl (pks_encR l) (pk_encR o) (by rw [depth_encR]; omega)]
  have : decide (encR o ∈ l.map encR) = decide (o ∈ l) := by
    refine decide_eq_decide.mpr ⟨fun h => ?_, fun h => List.mem_map.mpr ⟨o, h, rfl⟩⟩
    obtain ⟨x, hx, e⟩ := List.mem_map.mp h
    rw [← encR_inj e]
    exact hx
  rw [this]
theorem in_rkT {neg : Bool} {l : List (Option Nat)} {o : Option Nat} {s : Sto} : cIn neg s (.d (encR o)) (.d (.tuple (l.map encR))) = some (if neg then !decide (o ∈ l) else decide (o ∈ l)) := by
  rw [v_inT (x := encR o) rfl (pks_encR l) (pk_encR o) (by rw [depth_encR]; omega)]
  have : decide (encR o ∈ l.map encR) = decide (o ∈ l) := by
    refine decide_eq_decide.mpr ⟨fun h => ?_, fun h => List.mem_map.mpr ⟨o, h, rfl⟩⟩
    obtain ⟨x, hx, e⟩ := List.mem_map.mp h
    rw [← encR_inj e]
    exact hx
  rw [this]
theorem odd_test (o : Option Nat) (e : Lo) (s : Sto) {k : Nat} (h : e[k]? = some (some (.d (encR o)))) : R (eAnd (eCmp (cIsN true) (eVar k) (eC .none)) (eCmp cEq (eBin oMod (eVar k) (eC (.int 2))) (eC (.int 1))) e s) fun d s' => d = .d (.bool (odR o)) ∧ s' = s := by
  cases o with
  | none =>
    simp only [Rs_nil, R_call, R_cons, R_nil, R_Var, R_C, R_bin, R_cmp, R_tcmp, R_tOr, R_tAnd, R_tNot, R_tVal, R_tTrue, R_ite, R_eAnd, R_eOr, R_eNot, R_neg, R_tup, R_isi, R_some, Rc_some, N.v_eq, N.v_ne, N.v_lt, N.v_le, N.v_gt, N.v_ge, N.v_add, N.v_sub, N.v_iadd, N.v_xor, N.v_int, N.tru_b, N.pd_d, N.data_nil, N.data_cons, N.len_t, N.v_tupT, N.g_name, N.isNone_n, N.isNone_t, N.isNone_i, N.v_isN, N.v_isNn, N.v_eqB, N.v_neB, List.set_cons_succ, List.set_cons_zero, List.getElem?_cons_succ, List.getElem?_cons_zero, Bool.not_true, Bool.not_false, Bool.false_eq_true, Bool.true_eq_false, eq_self, true_implies, false_implies, true_and, and_true, decide_true, decide_false, Int.zero_add, N.R_sl, N.R_it, R_oNone, R_oSome, wipeN, N.R_lst, N.R_mkF, N.R_mkT, N.R_meth, N.v_addT, Ri_rng1, Ri_rng2, Ri_seq, h, encR]
    simp [odR]
  | some t =>
    simp only [Rs_nil, R_call, R_cons, R_nil, R_Var, R_C, R_bin, R_cmp, R_tcmp, R_tOr, R_tAnd, R_tNot, R_tVal, R_tTrue, R_ite, R_eAnd, R_eOr, R_eNot, R_neg, R_tup, R_isi, R_some, Rc_some, N.v_eq, N.v_ne, N.v_lt, N.v_le, N.v_gt, N.v_ge, N.v_add, N.v_sub, N.v_iadd, N.v_xor, N.v_int, N.tru_b, N.pd_d, N.data_nil, N.data_cons, N.len_t, N.v_tupT, N.g_name, N.isNone_n, N.isNone_t, N.isNone_i, N.v_isN, N.v_isNn, N.v_eqB, N.v_neB, List.set_cons_succ, List.set_cons_zero, List.getElem?_cons_succ, List.getElem?_cons_zero, Bool.not_true, Bool.not_false, Bool.false_eq_true, Bool.true_eq_false, eq_self, true_implies, false_implies, true_and, and_true, decide_true, decide_false, Int.zero_add, N.R_sl, N.R_it, R_oNone, R_oSome, wipeN, N.R_lst, N.R_mkF, N.R_mkT, N.R_meth, N.v_addT, Ri_rng1, Ri_rng2, Ri_seq, h, encR]
    rw [v_mod (show (0 : Int) < 2 by decide)]
    simp only [Rs_nil, R_call, R_cons, R_nil, R_Var, R_C, R_bin, R_cmp, R_tcmp, R_tOr, R_tAnd, R_tNot, R_tVal, R_tTrue, R_ite, R_eAnd, R_eOr, R_eNot, R_neg, R_tup, R_isi, R_some, Rc_some, N.v_eq, N.v_ne, N.v_lt, N.v_le, N.v_gt, N.v_ge, N.v_add, N.v_sub, N.v_iadd, N.v_xor, N.v_int, N.tru_b, N.pd_d, N.data_nil, N.data_cons, N.len_t, N.v_tupT, N.g_name, N.isNone_n, N.isNone_t, N.isNone_i, N.v_isN, N.v_isNn, N.v_eqB, N.v_neB, List.set_cons_succ, List.set_cons_zero, List.getElem?_cons_succ, List.getElem?_cons_zero, Bool.not_true, Bool.not_false, Bool.false_eq_true, Bool.true_eq_false, eq_self, true_implies, false_implies, true_and, and_true, decide_true, decide_false, Int.zero_add, N.R_sl, N.R_it, R_oNone, R_oSome, wipeN, N.R_lst, N.R_mkF, N.R_mkT, N.R_meth, N.v_addT, Ri_rng1, Ri_rng2, Ri_seq]
    unfold odR
    congr 2
    exact decide_eq_decide.mpr (by omega)
section
variable {n : Nat} {a b : List (List Nat)}
theorem isdue_ok (h : Bd n a b) {r : Nat} {M : List (Bool × Nat)} (m : MR n (mvB a b) r M) {w : Bool} {i : Nat} (hi : i < n) (hs0 : stg (mvB a b) r w i = none) {s : Sto} {j : Nat} (hj : s[j]? = some (cRk kP n (mvB a b) M)) : m_is_due s [.d (bdD a b), .r j, .d (.str (whoS w)), .d (.int (i : Nat)), .d (.int (r : Nat))] = some (.d (.bool (dueB (mvB a b) (stg (mvB a b) r) w i)), s) := by
  have ok := h.ok
  have ln := h.len (w := w) hi
  apply R.eq
  unfold m_is_due b_is_due
  rw [R_fn]
  refine ⟨rfl, ?_⟩
  simp only [List.map_cons, List.map_nil, List.cons_append, List.nil_append, List.length_cons, List.length_nil, Nat.reduceSub, Nat.reduceAdd, List.replicate_succ, List.replicate_zero]
  rw [Rs_seq, Rs_set]
  refine R_lcm (mvB a b w i) (fun k => .d (.int (k : Nat))) (fun k => encR (stg (mvB a b) r (!w) k)) ?_ (fun k hk acc => ?_) (by simp only [lim]; omega) ?_
  · rw [Ri_seq]
    simp only [Rs_nil, R_call, R_cons, R_nil, R_Var, R_C, R_bin, R_cmp, R_tcmp, R_tOr, R_tAnd, R_tNot, R_tVal, R_tTrue, R_ite, R_eAnd, R_eOr, R_eNot, R_neg, R_tup, R_isi, R_some, Rc_some, N.v_eq, N.v_ne, N.v_lt, N.v_le, N.v_gt, N.v_ge, N.v_add, N.v_sub, N.v_iadd, N.v_xor, N.v_int, N.tru_b, N.pd_d, N.data_nil, N.data_cons, N.len_t, N.v_tupT, N.g_name, N.isNone_n, N.isNone_t, N.isNone_i, N.v_isN, N.v_isNn, N.v_eqB, N.v_neB, List.set_cons_succ, List.set_cons_zero, List.getElem?_cons_succ, List.getElem?_cons_zero, Bool.not_true, Bool.not_false, Bool.false_eq_true, Bool.true_eq_false, eq_self, true_implies, false_implies, true_and, and_true, decide_true, decide_false, Int.zero_add, N.R_sl, N.R_it, R_oNone, R_oSome, wipeN, N.R_lst, N.R_mkF, N.R_mkT, N.R_meth, N.v_addT, Ri_rng1, Ri_rng2, Ri_seq, mof_ok, it_side (if w then a else b) (show i < (if w then a else b).length by rw [h.side w]; exact hi)]
    rw [mv_eq]
    simp [tup, nt, Function.comp_def]
  · have hkn := ok.lt w i hi k hk
    have hj2 : (s ++ [Cell.lst acc])[j]? = some (cRk kP n (mvB a b) M) := by rw [List.getElem?_append_left (List.getElem?_eq_some_iff.mp hj).1]; exact hj
    rw [g_name, Rc_some]
    refine R_getT (x := kP (!w, k)) rfl hj2 ?_ (key_kP _) ?_
    · simp only [Rs_nil, R_call, R_cons, R_nil, R_Var, R_C, R_bin, R_cmp, R_tcmp, R_tOr, R_tAnd, R_tNot, R_tVal, R_tTrue, R_ite, R_eAnd, R_eOr, R_eNot, R_neg, R_tup, R_isi, R_some, Rc_some, N.v_eq, N.v_ne, N.v_lt, N.v_le, N.v_gt, N.v_ge, N.v_add, N.v_sub, N.v_iadd, N.v_xor, N.v_int, N.tru_b, N.pd_d, N.data_nil, N.data_cons, N.len_t, N.v_tupT, N.g_name, N.isNone_n, N.isNone_t, N.isNone_i, N.v_isN, N.v_isNn, N.v_eqB, N.v_neB, List.set_cons_succ, List.set_cons_zero, List.getElem?_cons_succ, List.getElem?_cons_zero, Bool.not_true, Bool.not_false, Bool.false_eq_true, Bool.true_eq_false, eq_self, true_implies, false_implies, true_and, and_true, decide_true, decide_false, Int.zero_add, N.R_sl, N.R_it, R_oNone, R_oSome, wipeN, N.R_lst, N.R_mkF, N.R_mkT, N.R_meth, N.v_addT, Ri_rng1, Ri_rng2, Ri_seq, other_ok]
      exact ⟨by simp [lim], rfl⟩
    · rw [m.get kP_inj ok hkn]
      exact ⟨rfl, rfl⟩
  rw [show (mvB a b w i).map (fun k => encR (stg (mvB a b) r (!w) k)) = ((mvB a b w i).map (stg (mvB a b) r (!w))).map encR by rw [List.map_map]; rfl]
  rw [thn_nx, Rs_seq, Rs_if]
  simp only [Rs_nil, R_call, R_cons, R_nil, R_Var, R_C, R_bin, R_cmp, R_tcmp, R_tOr, R_tAnd, R_tNot, R_tVal, R_tTrue, R_ite, R_eAnd, R_eOr, R_eNot, R_neg, R_tup, R_isi, R_some, Rc_some, N.v_eq, N.v_ne, N.v_lt, N.v_le, N.v_gt, N.v_ge, N.v_add, N.v_sub, N.v_iadd, N.v_xor, N.v_int, N.tru_b, N.pd_d, N.data_nil, N.data_cons, N.len_t, N.v_tupT, N.g_name, N.isNone_n, N.isNone_t, N.isNone_i, N.v_isN, N.v_isNn, N.v_eqB, N.v_neB, List.set_cons_succ, List.set_cons_zero, List.getElem?_cons_succ, List.getElem?_cons_zero, Bool.not_true, Bool.not_false, Bool.false_eq_true, Bool.true_eq_false, eq_self, true_implies, false_implies, true_and, and_true, decide_true, decide_false, Int.zero_add, N.R_sl, N.R_it, R_oNone, R_oSome, wipeN, N.R_lst, N.R_mkF, N.R_mkT, N.R_meth, N.v_addT, Ri_rng1, Ri_rng2, Ri_seq]
  rw [v_mod (show (0 : Int) < 2 by decide)]
  simp only [Rs_nil, R_call, R_cons, R_nil, R_Var, R_C, R_bin, R_cmp, R_tcmp, R_tOr, R_tAnd, R_tNot, R_tVal, R_tTrue, R_ite, R_eAnd, R_eOr, R_eNot, R_neg, R_tup, R_isi, R_some, Rc_some, N.v_eq, N.v_ne, N.v_lt, N.v_le, N.v_gt, N.v_ge, N.v_add, N.v_sub, N.v_iadd, N.v_xor, N.v_int, N.tru_b, N.pd_d, N.data_nil, N.data_cons, N.len_t, N.v_tupT, N.g_name, N.isNone_n, N.isNone_t, N.isNone_i, N.v_isN, N.v_isNn, N.v_eqB, N.v_neB, List.set_cons_succ, List.set_cons_zero, List.getElem?_cons_succ, List.getElem?_cons_zero, Bool.not_true, Bool.not_false, Bool.false_eq_true, Bool.true_eq_false, eq_self, true_implies, false_implies, true_and, and_true, decide_true, decide_false, Int.zero_add, N.R_sl, N.R_it, R_oNone, R_oSome, wipeN, N.R_lst, N.R_mkF, N.R_mkT, N.R_meth, N.v_addT, Ri_rng1, Ri_rng2, Ri_seq]
  refine ⟨fun h2 => ?_, fun h2 => ?_⟩
  · have h2 : r % 2 = 1 := by have := of_decide_eq_true h2; omega
    rw [Rs_seq, Rs_ret]
    simp only [Rs_nil, R_call, R_cons, R_nil, R_Var, R_C, R_bin, R_cmp, R_tcmp, R_tOr, R_tAnd, R_tNot, R_tVal, R_tTrue, R_ite, R_eAnd, R_eOr, R_eNot, R_neg, R_tup, R_isi, R_some, Rc_some, N.v_eq, N.v_ne, N.v_lt, N.v_le, N.v_gt, N.v_ge, N.v_add, N.v_sub, N.v_iadd, N.v_xor, N.v_int, N.tru_b, N.pd_d, N.data_nil, N.data_cons, N.len_t, N.v_tupT, N.g_name, N.isNone_n, N.isNone_t, N.isNone_i, N.v_isN, N.v_isNn, N.v_eqB, N.v_neB, List.set_cons_succ, List.set_cons_zero, List.getElem?_cons_succ, List.getElem?_cons_zero, Bool.not_true, Bool.not_false, Bool.false_eq_true, Bool.true_eq_false, eq_self, true_implies, false_implies, true_and, and_true, decide_true, decide_false, Int.zero_add, N.R_sl, N.R_it, R_oNone, R_oSome, wipeN, N.R_lst, N.R_mkF, N.R_mkT, N.R_meth, N.v_addT, Ri_rng1, Ri_rng2, Ri_seq]
    rw [show ((r : Nat) : Int) - 1 = ((r - 1 : Nat) : Int) by omega, show D.d (.int ((r - 1 : Nat) : Int)) = .d (encR (some (r - 1))) from rfl, in_rkL, if_neg Bool.false_ne_true, Rc_some, thn_rt, thn_rt]
    refine R_retd.mpr ⟨?_, by simp⟩
    rw [due_odd hs0 h2]
    congr 2
    refine decide_eq_decide.mpr ?_
    rw [List.mem_map]
  · have h2 : r % 2 = 0 := by have := of_decide_eq_false h2; omega
    try rw [Rs_nil]
    rw [thn_nx, Rs_seq, Rs_ret]
    simp only [R_call, R_cons, R_nil]
    refine R_lcm ((mvB a b w i).map (stg (mvB a b) r (!w))) (fun o => .d (encR o)) (fun o => .bool (odR o)) ?_ (fun o ho acc => ?_) (by rw [List.length_map]; simp only [lim]; omega) ?_
    · rw [Ri_seq]
      simp only [Rs_nil, R_call, R_cons, R_nil, R_Var, R_C, R_bin, R_cmp, R_tcmp, R_tOr, R_tAnd, R_tNot, R_tVal, R_tTrue, R_ite, R_eAnd, R_eOr, R_eNot, R_neg, R_tup, R_isi, R_some, Rc_some, N.v_eq, N.v_ne, N.v_lt, N.v_le, N.v_gt, N.v_ge, N.v_add, N.v_sub, N.v_iadd, N.v_xor, N.v_int, N.tru_b, N.pd_d, N.data_nil, N.data_cons, N.len_t, N.v_tupT, N.g_name, N.isNone_n, N.isNone_t, N.isNone_i, N.v_isN, N.v_isNn, N.v_eqB, N.v_neB, List.set_cons_succ, List.set_cons_zero, List.getElem?_cons_succ, List.getElem?_cons_zero, Bool.not_true, Bool.not_false, Bool.false_eq_true, Bool.true_eq_false, eq_self, true_implies, false_implies, true_and, and_true, decide_true, decide_false, Int.zero_add, N.R_sl, N.R_it, R_oNone, R_oSome, wipeN, N.R_lst, N.R_mkF, N.R_mkT, N.R_meth, N.v_addT, Ri_rng1, Ri_rng2, Ri_seq]
      simp [Function.comp_def]
    · rw [g_name, Rc_some]
      exact odd_test o _ _ rfl
    rw [all_map, R_some, thn_rt]
    refine R_retd.mpr ⟨?_, by simp⟩
    rw [due_even hs0 h2]
    unfold lostB
    rw [List.all_map]
    rfl
end
end N

namespace N
open PySem L2 PyProof.Rows

theorem newB_end {n : Nat} {mv : Bool → Nat → List Nat} (ok : MvOk n mv) {r : Nat} (hr : 2 * n ≤ r) {l : List (Bool × Nat)} (hl : ∀ p, p ∈ l ↔ p.2 < n) : newB n mv r l = [] := by
  refine List.eq_nil_iff_forall_not_mem.mpr fun p hp => ?_
  have := MR.rk ok hl hp
  have := (stg_lt this).1
  omega
theorem nd_ptsB (n : Nat) : (ptsB n).Nodup := by
  unfold ptsB
  rw [List.nodup_append]
  refine ⟨?_, ?_, ?_⟩
  · refine List.pairwise_map.mpr (List.nodup_range.imp fun h e => h (by injection e))
  · refine List.pairwise_map.mpr (List.nodup_range.imp fun h e => h (by injection e))
  · intro a ha b hb e
    obtain ⟨x, _, rfl⟩ := List.mem_map.mp ha
    obtain ⟨y, _, rfl⟩ := List.mem_map.mp hb
    injection e with e1 _
    cases e1
theorem rest_eq (n : Nat) (P : Bool → Nat → Bool) : (([true, false] : List Bool).flatMap fun w => ((List.range n).filter (P w)).map fun i => kP (w, i)) = ((ptsB n).filter fun p => P p.1 p.2).map kP := by
  unfold ptsB
  rw [List.filter_append, List.map_append, List.filter_map, List.filter_map, List.map_map, List.map_map]
  simp only [List.flatMap_cons, List.flatMap_nil, List.append_nil]
  rfl
section
variable {n : Nat} {a b : List (List Nat)}
theorem put_new {kf : Bool × Nat → PyData} (inj : ∀ p q, kf p = kf q → p = q) {mv : Bool → Nat → List Nat} {M : List (Bool × Nat)} {p : Bool × Nat} (hp : p ∉ M) {r : Nat} (hr : rkB n mv p.1 p.2 = some r) : dPut (DG kf (vRk n mv) M) (kf p) (.d (.int (r : Nat))) = DG kf (vRk n mv) (M ++ [p]) := by
  have := put_DG (vf := vRk n mv) inj M p
  rw [show vRk n mv p = .d (.int (r : Nat)) by unfold vRk; rw [hr]; rfl] at this
  rw [this]
  split
  · rename_i h
    exact absurd h hp
  · rfl
theorem ranks_ok (h : Bd n a b) (s : Sto) : m_ranks s [.d (bdD a b)] = some (.d (rksD n (rkB n (mvB a b))), s) := by
  have ok := h.ok
  have n1 := h.n1
  have n40 := h.n40
  apply R.eq
  unfold m_ranks b_ranks
  rw [R_fn]
  refine ⟨rfl, ?_⟩
  simp only [List.map_cons, List.map_nil, List.cons_append, List.nil_append, List.length_cons, List.length_nil, Nat.reduceSub, Nat.reduceAdd, List.replicate_succ, List.replicate_zero]
  rw [Rs_seq, Rs_set]
  simp only [Rs_nil, R_call, R_cons, R_nil, R_Var, R_C, R_bin, R_cmp, R_tcmp, R_tOr, R_tAnd, R_tNot, R_tVal, R_tTrue, R_ite, R_eAnd, R_eOr, R_eNot, R_neg, R_tup, R_isi, R_some, Rc_some, N.v_eq, N.v_ne, N.v_lt, N.v_le, N.v_gt, N.v_ge, N.v_add, N.v_sub, N.v_iadd, N.v_xor, N.v_int, N.tru_b, N.pd_d, N.data_nil, N.data_cons, N.len_t, N.v_tupT, N.g_name, N.isNone_n, N.isNone_t, N.isNone_i, N.v_isN, N.v_isNn, N.v_eqB, N.v_neB, List.set_cons_succ, List.set_cons_zero, List.getElem?_cons_succ, List.getElem?_cons_zero, Bool.not_true, Bool.not_false, Bool.false_eq_true, Bool.true_eq_false, eq_self, true_implies, false_implies, true_and, and_true, decide_true, decide_false, Int.zero_add, N.R_sl, N.R_it, R_oNone, R_oSome, wipeN, N.R_lst, N.R_mkF, N.R_mkT, N.R_meth, N.v_addT, Ri_rng1, Ri_rng2, Ri_seq, it_bd0, len_side, h.la]
  rw [thn_nx, Rs_seq, Rs_set]
  simp only [Rs_nil, R_call, R_cons, R_nil, R_Var, R_C, R_bin, R_cmp, R_tcmp, R_tOr, R_tAnd, R_tNot, R_tVal, R_tTrue, R_ite, R_eAnd, R_eOr, R_eNot, R_neg, R_tup, R_isi, R_some, Rc_some, N.v_eq, N.v_ne, N.v_lt, N.v_le, N.v_gt, N.v_ge, N.v_add, N.v_sub, N.v_iadd, N.v_xor, N.v_int, N.tru_b, N.pd_d, N.data_nil, N.data_cons, N.len_t, N.v_tupT, N.g_name, N.isNone_n, N.isNone_t, N.isNone_i, N.v_isN, N.v_isNn, N.v_eqB, N.v_neB, List.set_cons_succ, List.set_cons_zero, List.getElem?_cons_succ, List.getElem?_cons_zero, Bool.not_true, Bool.not_false, Bool.false_eq_true, Bool.true_eq_false, eq_self, true_implies, false_implies, true_and, and_true, decide_true, decide_false, Int.zero_add, N.R_sl, N.R_it, R_oNone, R_oSome, wipeN, N.R_lst, N.R_mkF, N.R_mkT, N.R_meth, N.v_addT, Ri_rng1, Ri_rng2, Ri_seq, R_dic]
  rw [thn_nx, Rs_seq, Rs_set]
  simp only [Rs_nil, R_call, R_cons, R_nil, R_Var, R_C, R_bin, R_cmp, R_tcmp, R_tOr, R_tAnd, R_tNot, R_tVal, R_tTrue, R_ite, R_eAnd, R_eOr, R_eNot, R_neg, R_tup, R_isi, R_some, Rc_some, N.v_eq, N.v_ne, N.v_lt, N.v_le, N.v_gt, N.v_ge, N.v_add, N.v_sub, N.v_iadd, N.v_xor, N.v_int, N.tru_b, N.pd_d, N.data_nil, N.data_cons, N.len_t, N.v_tupT, N.g_name, N.isNone_n, N.isNone_t, N.isNone_i, N.v_isN, N.v_isNn, N.v_eqB, N.v_neB, List.set_cons_succ, List.set_cons_zero, List.getElem?_cons_succ, List.getElem?_cons_zero, Bool.not_true, Bool.not_false, Bool.false_eq_true, Bool.true_eq_false, eq_self, true_implies, false_implies, true_and, and_true, decide_true, decide_false, Int.zero_add, N.R_sl, N.R_it, R_oNone, R_oSome, wipeN, N.R_lst, N.R_mkF, N.R_mkT, N.R_meth, N.v_addT, Ri_rng1, Ri_rng2, Ri_seq]
  rw [thn_nx, Rs_seq]
  refine Rs_while (fun m e s' => ∃ r M, m + r = 2 * n + 1 ∧ MR n (mvB a b) r M ∧ s' = s ++ [cRk kP n (mvB a b) M] ∧ e = [some (.d (bdD a b)), some (.d (.int (n : Nat))), some (.r s.length), some (.d (.int (r : Nat))), none, none, none, none, none]) (m := 2 * n + 1) (Nat.lt_of_le_of_lt (show 2 * n + 1 ≤ 81 by omega) (by decide)) ⟨0, [], by omega, MR.nil, rfl, rfl⟩ (fun m e s' hi => ?_)
  obtain ⟨r, M, hmr, hM, rfl, rfl⟩ := hi
  have few := hM.few
  have hj : (s ++ [cRk kP n (mvB a b) M])[s.length]? = some (cRk kP n (mvB a b) M) := by simp
  have hj2 : ∀ g : List Cell, (s ++ [cRk kP n (mvB a b) M] ++ g)[s.length]? = some (cRk kP n (mvB a b) M) := fun g => by simp
  simp only [Rs_nil, R_call, R_cons, R_nil, R_Var, R_C, R_bin, R_cmp, R_tcmp, R_tOr, R_tAnd, R_tNot, R_tVal, R_tTrue, R_ite, R_eAnd, R_eOr, R_eNot, R_neg, R_tup, R_isi, R_some, Rc_some, N.v_eq, N.v_ne, N.v_lt, N.v_le, N.v_gt, N.v_ge, N.v_add, N.v_sub, N.v_iadd, N.v_xor, N.v_int, N.tru_b, N.pd_d, N.data_nil, N.data_cons, N.len_t, N.v_tupT, N.g_name, N.isNone_n, N.isNone_t, N.isNone_i, N.v_isN, N.v_isNn, N.v_eqB, N.v_neB, List.set_cons_succ, List.set_cons_zero, List.getElem?_cons_succ, List.getElem?_cons_zero, Bool.not_true, Bool.not_false, Bool.false_eq_true, Bool.true_eq_false, eq_self, true_implies, false_implies, true_and, and_true, decide_true, decide_false, Int.zero_add, N.R_sl, N.R_it, R_oNone, R_oSome, wipeN, N.R_lst, N.R_mkF, N.R_mkT, N.R_meth, N.v_addT, Ri_rng1, Ri_rng2, Ri_seq]
  rw [Rs_seq, Rs_set]
  refine R_lc2F ([true, false] : List Bool) (fun w => .d (.str (whoS w))) (fun _ => List.range n) (fun i => .d (.int (i : Nat))) (fun w i => kP (w, i)) (fun w i => !(stg (mvB a b) r w i).isSome) ?_ (fun w hw acc => ?_) (by simp [lim]; omega) ?_
  · rw [Ri_seq]
    simp only [Rs_nil, R_call, R_cons, R_nil, R_Var, R_C, R_bin, R_cmp, R_tcmp, R_tOr, R_tAnd, R_tNot, R_tVal, R_tTrue, R_ite, R_eAnd, R_eOr, R_eNot, R_neg, R_tup, R_isi, R_some, Rc_some, N.v_eq, N.v_ne, N.v_lt, N.v_le, N.v_gt, N.v_ge, N.v_add, N.v_sub, N.v_iadd, N.v_xor, N.v_int, N.tru_b, N.pd_d, N.data_nil, N.data_cons, N.len_t, N.v_tupT, N.g_name, N.isNone_n, N.isNone_t, N.isNone_i, N.v_isN, N.v_isNn, N.v_eqB, N.v_neB, List.set_cons_succ, List.set_cons_zero, List.getElem?_cons_succ, List.getElem?_cons_zero, Bool.not_true, Bool.not_false, Bool.false_eq_true, Bool.true_eq_false, eq_self, true_implies, false_implies, true_and, and_true, decide_true, decide_false, Int.zero_add, N.R_sl, N.R_it, R_oNone, R_oSome, wipeN, N.R_lst, N.R_mkF, N.R_mkT, N.R_meth, N.v_addT, Ri_rng1, Ri_rng2, Ri_seq]
    rfl
  · rw [g_name, Rc_some, Ri_rng1]
    simp only [Rs_nil, R_call, R_cons, R_nil, R_Var, R_C, R_bin, R_cmp, R_tcmp, R_tOr, R_tAnd, R_tNot, R_tVal, R_tTrue, R_ite, R_eAnd, R_eOr, R_eNot, R_neg, R_tup, R_isi, R_some, Rc_some, N.v_eq, N.v_ne, N.v_lt, N.v_le, N.v_gt, N.v_ge, N.v_add, N.v_sub, N.v_iadd, N.v_xor, N.v_int, N.tru_b, N.pd_d, N.data_nil, N.data_cons, N.len_t, N.v_tupT, N.g_name, N.isNone_n, N.isNone_t, N.isNone_i, N.v_isN, N.v_isNn, N.v_eqB, N.v_neB, List.set_cons_succ, List.set_cons_zero, List.getElem?_cons_succ, List.getElem?_cons_zero, Bool.not_true, Bool.not_false, Bool.false_eq_true, Bool.true_eq_false, eq_self, true_implies, false_implies, true_and, and_true, decide_true, decide_false, Int.zero_add, N.R_sl, N.R_it, R_oNone, R_oSome, wipeN, N.R_lst, N.R_mkF, N.R_mkT, N.R_meth, N.v_addT, Ri_rng1, Ri_rng2, Ri_seq]
    refine ⟨⟨⟨by omega, by omega⟩, rng0N rfl⟩, fun i hi acc => ?_⟩
    have hi := List.mem_range.mp hi
    have hin := v_inD (neg := true) (hj2 [Cell.lst acc]) (key_kP (w, i))
    rw [if_pos rfl] at hin
    have hh := hM.has kP_inj (w := w) hi
    rw [hh] at hin
    refine ⟨by simp [lim], ?_⟩
    rw [show cIn true (s ++ [cRk kP n (mvB a b) M] ++ [Cell.lst acc]) (.d (.tuple [.str (whoS w), .int (i : Nat)])) (.r s.length) = some (!(stg (mvB a b) r w i).isSome) from hin, Rc_some]
    exact ⟨rfl, fun _ => ⟨by simp [lim], rfl⟩⟩
  rw [rest_eq, thn_nx, Rs_seq, Rs_set]
  have rl : ((ptsB n).filter fun p => !(stg (mvB a b) r p.1 p.2).isSome).length ≤ 80 := by
    have := List.length_filter_le (fun p => !(stg (mvB a b) r p.1 p.2).isSome) (ptsB n)
    rw [len_ptsB] at this
    omega
  refine R_lc ((ptsB n).filter fun p => !(stg (mvB a b) r p.1 p.2).isSome) (fun p => .d (kP p)) kP (fun p => dueB (mvB a b) (stg (mvB a b) r) p.1 p.2) ?_ (fun p hp acc => ?_) (by simp only [lim]; omega) ?_
  · rw [Ri_seq]
    simp only [Rs_nil, R_call, R_cons, R_nil, R_Var, R_C, R_bin, R_cmp, R_tcmp, R_tOr, R_tAnd, R_tNot, R_tVal, R_tTrue, R_ite, R_eAnd, R_eOr, R_eNot, R_neg, R_tup, R_isi, R_some, Rc_some, N.v_eq, N.v_ne, N.v_lt, N.v_le, N.v_gt, N.v_ge, N.v_add, N.v_sub, N.v_iadd, N.v_xor, N.v_int, N.tru_b, N.pd_d, N.data_nil, N.data_cons, N.len_t, N.v_tupT, N.g_name, N.isNone_n, N.isNone_t, N.isNone_i, N.v_isN, N.v_isNn, N.v_eqB, N.v_neB, List.set_cons_succ, List.set_cons_zero, List.getElem?_cons_succ, List.getElem?_cons_zero, Bool.not_true, Bool.not_false, Bool.false_eq_true, Bool.true_eq_false, eq_self, true_implies, false_implies, true_and, and_true, decide_true, decide_false, Int.zero_add, N.R_sl, N.R_it, R_oNone, R_oSome, wipeN, N.R_lst, N.R_mkF, N.R_mkT, N.R_meth, N.v_addT, Ri_rng1, Ri_rng2, Ri_seq]
    simp [Function.comp_def]
  · obtain ⟨w, i⟩ := p
    rw [List.mem_filter, mem_ptsB, Bool.not_eq_true', Option.isSome_eq_false_iff, Option.isNone_iff_eq_none] at hp
    rw [show D.d (kP (w, i)) = .d (.tuple [.str (whoS w), .int (i : Nat)]) from rfl]
    simp only [g_tup, gs_len, gs_cons, gs_nil, Rs_nil, R_call, R_cons, R_nil, R_Var, R_C, R_bin, R_cmp, R_tcmp, R_tOr, R_tAnd, R_tNot, R_tVal, R_tTrue, R_ite, R_eAnd, R_eOr, R_eNot, R_neg, R_tup, R_isi, R_some, Rc_some, N.v_eq, N.v_ne, N.v_lt, N.v_le, N.v_gt, N.v_ge, N.v_add, N.v_sub, N.v_iadd, N.v_xor, N.v_int, N.tru_b, N.pd_d, N.data_nil, N.data_cons, N.len_t, N.v_tupT, N.g_name, N.isNone_n, N.isNone_t, N.isNone_i, N.v_isN, N.v_isNn, N.v_eqB, N.v_neB, List.set_cons_succ, List.set_cons_zero, List.getElem?_cons_succ, List.getElem?_cons_zero, Bool.not_true, Bool.not_false, Bool.false_eq_true, Bool.true_eq_false, eq_self, true_implies, false_implies, true_and, and_true, decide_true, decide_false, Int.zero_add, N.R_sl, N.R_it, R_oNone, R_oSome, wipeN, N.R_lst, N.R_mkF, N.R_mkT, N.R_meth, N.v_addT, Ri_rng1, Ri_rng2, Ri_seq, if_pos (show ([PyData.str (whoS w), PyData.int (i : Nat)]).length = 2 from rfl)]
    rw [isdue_ok h hM hp.1 hp.2 (hj2 [Cell.lst acc]), R_some]
    simp only [Rs_nil, R_call, R_cons, R_nil, R_Var, R_C, R_bin, R_cmp, R_tcmp, R_tOr, R_tAnd, R_tNot, R_tVal, R_tTrue, R_ite, R_eAnd, R_eOr, R_eNot, R_neg, R_tup, R_isi, R_some, Rc_some, N.v_eq, N.v_ne, N.v_lt, N.v_le, N.v_gt, N.v_ge, N.v_add, N.v_sub, N.v_iadd, N.v_xor, N.v_int, N.tru_b, N.pd_d, N.data_nil, N.data_cons, N.len_t, N.v_tupT, N.g_name, N.isNone_n, N.isNone_t, N.isNone_i, N.v_isN, N.v_isNn, N.v_eqB, N.v_neB, List.set_cons_succ, List.set_cons_zero, List.getElem?_cons_succ, List.getElem?_cons_zero, Bool.not_true, Bool.not_false, Bool.false_eq_true, Bool.true_eq_false, eq_self, true_implies, false_implies, true_and, and_true, decide_true, decide_false, Int.zero_add, N.R_sl, N.R_it, R_oNone, R_oSome, wipeN, N.R_lst, N.R_mkF, N.R_mkT, N.R_meth, N.v_addT, Ri_rng1, Ri_rng2, Ri_seq]
    exact fun _ => by simp [lim]
  rw [List.filter_filter]
  have en : (ptsB n).filter (fun p => dueB (mvB a b) (stg (mvB a b) r) p.1 p.2 && !(stg (mvB a b) r p.1 p.2).isSome) = newB n (mvB a b) r (ptsB n) := by
    unfold newB
    exact List.filter_congr fun p _ => Bool.and_comm _ _
  rw [en]
  have hstep := hM.step (nd_ptsB n) (fun p => mem_ptsB)
  have hrk : ∀ p ∈ newB n (mvB a b) r (ptsB n), rkB n (mvB a b) p.1 p.2 = some r := fun p hp => MR.rk ok (fun p => mem_ptsB) hp
  have hend : 2 * n ≤ r → newB n (mvB a b) r (ptsB n) = [] := fun hr => newB_end ok hr fun p => mem_ptsB
  have nl : (newB n (mvB a b) r (ptsB n)).length ≤ 80 := by
    have := List.length_filter_le (fun p => !(stg (mvB a b) r p.1 p.2).isSome && dueB (mvB a b) (stg (mvB a b) r) p.1 p.2) (ptsB n)
    rw [len_ptsB] at this
    unfold newB
    omega
  generalize newB n (mvB a b) r (ptsB n) = nw at hstep hrk hend nl
  have m2 : ∀ s, oMul s (.d (.int 2)) (.d (.int (n : Nat))) = some (.d (.int (2 * n : Nat)), s) := fun s => by
    rw [v_mulL (by decide)]
    rfl
  have htru : ∀ s, truD s (.d (.list (nw.map kP))) = some (!nw.isEmpty) := fun s => by cases nw <;> rfl
  rw [thn_nx, Rs_seq]
  generalize hrest : PyData.list (((ptsB n).filter fun p => !(stg (mvB a b) r p.1 p.2).isSome).map kP) = o4
  refine Rs.imp (Q := fun fl e2 s2 => (fl = .bk ∧ r = 2 * n + 1 ∨ fl = .nx ∧ r ≤ 2 * n) ∧ s2 = s ++ [cRk kP n (mvB a b) M] ∧ e2 = [some (.d (bdD a b)), some (.d (.int (n : Nat))), some (.r s.length), some (.d (.int (r : Nat))), some (.d o4), none, none, some (.d (.list (nw.map kP))), none]) ?_ ?_
  · rw [Rs_if]
    simp only [Rs_nil, R_call, R_cons, R_nil, R_Var, R_C, R_bin, R_cmp, R_tcmp, R_tOr, R_tAnd, R_tNot, R_tVal, R_tTrue, R_ite, R_eAnd, R_eOr, R_eNot, R_neg, R_tup, R_isi, R_some, Rc_some, N.v_eq, N.v_ne, N.v_lt, N.v_le, N.v_gt, N.v_ge, N.v_add, N.v_sub, N.v_iadd, N.v_xor, N.v_int, N.tru_b, N.pd_d, N.data_nil, N.data_cons, N.len_t, N.v_tupT, N.g_name, N.isNone_n, N.isNone_t, N.isNone_i, N.v_isN, N.v_isNn, N.v_eqB, N.v_neB, List.set_cons_succ, List.set_cons_zero, List.getElem?_cons_succ, List.getElem?_cons_zero, Bool.not_true, Bool.not_false, Bool.false_eq_true, Bool.true_eq_false, eq_self, true_implies, false_implies, true_and, and_true, decide_true, decide_false, Int.zero_add, N.R_sl, N.R_it, R_oNone, R_oSome, wipeN, N.R_lst, N.R_mkF, N.R_mkT, N.R_meth, N.v_addT, Ri_rng1, Ri_rng2, Ri_seq, m2, htru]
    refine ⟨fun h1 => ⟨fun h2 => ?_, fun h2 => ?_⟩, fun h1 => ?_⟩
    · have h2 := of_decide_eq_true h2
      rw [Rs_seq, Rs_bk]
      exact ⟨.inl ⟨rfl, by omega⟩, rfl, rfl⟩
    · have h2 := of_decide_eq_false h2
      try rw [Rs_nil]
      exact .inr (by omega)
    · try rw [Rs_nil]
      refine .inr (Classical.byContradiction fun hn => ?_)
      rw [hend (by omega)] at h1
      simp at h1
  rintro fl e2 s2 ⟨⟨rfl, hr⟩ | ⟨rfl, hr⟩, rfl, rfl⟩
  · -- the end
    rw [thn_bk, aft_bk, thn_nx, Rs_seq, Rs_ret]
    simp only [R_call, R_cons, R_nil]
    refine R_lcm ([true, false] : List Bool) (fun w => .d (.str (whoS w))) (fun w => rowR n (rkB n (mvB a b)) w) ?_ (fun w hw acc => ?_) (by simp [lim]) ?_
    · rw [Ri_seq]
      simp only [Rs_nil, R_call, R_cons, R_nil, R_Var, R_C, R_bin, R_cmp, R_tcmp, R_tOr, R_tAnd, R_tNot, R_tVal, R_tTrue, R_ite, R_eAnd, R_eOr, R_eNot, R_neg, R_tup, R_isi, R_some, Rc_some, N.v_eq, N.v_ne, N.v_lt, N.v_le, N.v_gt, N.v_ge, N.v_add, N.v_sub, N.v_iadd, N.v_xor, N.v_int, N.tru_b, N.pd_d, N.data_nil, N.data_cons, N.len_t, N.v_tupT, N.g_name, N.isNone_n, N.isNone_t, N.isNone_i, N.v_isN, N.v_isNn, N.v_eqB, N.v_neB, List.set_cons_succ, List.set_cons_zero, List.getElem?_cons_succ, List.getElem?_cons_zero, Bool.not_true, Bool.not_false, Bool.false_eq_true, Bool.true_eq_false, eq_self, true_implies, false_implies, true_and, and_true, decide_true, decide_false, Int.zero_add, N.R_sl, N.R_it, R_oNone, R_oSome, wipeN, N.R_lst, N.R_mkF, N.R_mkT, N.R_meth, N.v_addT, Ri_rng1, Ri_rng2, Ri_seq]
      rfl
    · rw [g_name, Rc_some]
      simp only [R_call, R_cons, R_nil]
      refine R_lcm (List.range n) (fun i => .d (.int (i : Nat))) (fun i => encR (rkB n (mvB a b) w i)) ?_ (fun i hi acc2 => ?_) (by simp only [lim, List.length_range]; omega) ?_
      · rw [Ri_rng1]
        simp only [Rs_nil, R_call, R_cons, R_nil, R_Var, R_C, R_bin, R_cmp, R_tcmp, R_tOr, R_tAnd, R_tNot, R_tVal, R_tTrue, R_ite, R_eAnd, R_eOr, R_eNot, R_neg, R_tup, R_isi, R_some, Rc_some, N.v_eq, N.v_ne, N.v_lt, N.v_le, N.v_gt, N.v_ge, N.v_add, N.v_sub, N.v_iadd, N.v_xor, N.v_int, N.tru_b, N.pd_d, N.data_nil, N.data_cons, N.len_t, N.v_tupT, N.g_name, N.isNone_n, N.isNone_t, N.isNone_i, N.v_isN, N.v_isNn, N.v_eqB, N.v_neB, List.set_cons_succ, List.set_cons_zero, List.getElem?_cons_succ, List.getElem?_cons_zero, Bool.not_true, Bool.not_false, Bool.false_eq_true, Bool.true_eq_false, eq_self, true_implies, false_implies, true_and, and_true, decide_true, decide_false, Int.zero_add, N.R_sl, N.R_it, R_oNone, R_oSome, wipeN, N.R_lst, N.R_mkF, N.R_mkT, N.R_meth, N.v_addT, Ri_rng1, Ri_rng2, Ri_seq]
        exact ⟨⟨by omega, by omega⟩, rng0N rfl⟩
      · have hi := List.mem_range.mp hi
        rw [g_name, Rc_some]
        refine R_getT (j := s.length) (kvs := DG kP (vRk n (mvB a b)) M) (x := kP (w, i)) rfl (by simp) ?_ (key_kP _) ?_
        · simp only [Rs_nil, R_call, R_cons, R_nil, R_Var, R_C, R_bin, R_cmp, R_tcmp, R_tOr, R_tAnd, R_tNot, R_tVal, R_tTrue, R_ite, R_eAnd, R_eOr, R_eNot, R_neg, R_tup, R_isi, R_some, Rc_some, N.v_eq, N.v_ne, N.v_lt, N.v_le, N.v_gt, N.v_ge, N.v_add, N.v_sub, N.v_iadd, N.v_xor, N.v_int, N.tru_b, N.pd_d, N.data_nil, N.data_cons, N.len_t, N.v_tupT, N.g_name, N.isNone_n, N.isNone_t, N.isNone_i, N.v_isN, N.v_isNn, N.v_eqB, N.v_neB, List.set_cons_succ, List.set_cons_zero, List.getElem?_cons_succ, List.getElem?_cons_zero, Bool.not_true, Bool.not_false, Bool.false_eq_true, Bool.true_eq_false, eq_self, true_implies, false_implies, true_and, and_true, decide_true, decide_false, Int.zero_add, N.R_sl, N.R_it, R_oNone, R_oSome, wipeN, N.R_lst, N.R_mkF, N.R_mkT, N.R_meth, N.v_addT, Ri_rng1, Ri_rng2, Ri_seq]
          exact ⟨by simp [lim], rfl⟩
        · rw [hM.get kP_inj ok hi, rk_up ok (by omega) hi]
          exact ⟨rfl, rfl⟩
      · rw [v_tupL, R_some]
        exact ⟨rfl, rfl⟩
    · rw [v_tupL, R_some, thn_rt]
      exact R_retd.mpr ⟨rfl, by simp⟩
  · -- one more stage
    rw [thn_nx, Rs_seq]
    refine Rs_for nw (fun p => .d (kP p)) (fun k e s' => s' = s ++ [cRk kP n (mvB a b) (M ++ nw.take k)] ∧ e = [some (.d (bdD a b)), some (.d (.int (n : Nat))), some (.r s.length), some (.d (.int (r : Nat))), some (.d o4), none, none, some (.d (.list (nw.map kP))), none]) ?_ (fun k p e s' hk hq => ?_) (fun e s' hq => ?_)
    · rw [Ri_seq]
      simp only [Rs_nil, R_call, R_cons, R_nil, R_Var, R_C, R_bin, R_cmp, R_tcmp, R_tOr, R_tAnd, R_tNot, R_tVal, R_tTrue, R_ite, R_eAnd, R_eOr, R_eNot, R_neg, R_tup, R_isi, R_some, Rc_some, N.v_eq, N.v_ne, N.v_lt, N.v_le, N.v_gt, N.v_ge, N.v_add, N.v_sub, N.v_iadd, N.v_xor, N.v_int, N.tru_b, N.pd_d, N.data_nil, N.data_cons, N.len_t, N.v_tupT, N.g_name, N.isNone_n, N.isNone_t, N.isNone_i, N.v_isN, N.v_isNn, N.v_eqB, N.v_neB, List.set_cons_succ, List.set_cons_zero, List.getElem?_cons_succ, List.getElem?_cons_zero, Bool.not_true, Bool.not_false, Bool.false_eq_true, Bool.true_eq_false, eq_self, true_implies, false_implies, true_and, and_true, decide_true, decide_false, Int.zero_add, N.R_sl, N.R_it, R_oNone, R_oSome, wipeN, N.R_lst, N.R_mkF, N.R_mkT, N.R_meth, N.v_addT, Ri_rng1, Ri_rng2, Ri_seq]
      exact ⟨by simp [Function.comp_def], by simp⟩
    · obtain ⟨rfl, rfl⟩ := hq
      have hp := List.mem_of_getElem? hk
      have hkl := (List.getElem?_eq_some_iff.mp hk).1
      have e1 : M ++ nw.take (k + 1) = (M ++ nw.take k) ++ [p] := by
        rw [List.take_add_one, hk, List.append_assoc]
        rfl
      have hnp : p ∉ M ++ nw.take k := fun hm => by
        have nd := hstep.nd
        rw [show M ++ nw = (M ++ nw.take k) ++ (nw.drop k) by rw [List.append_assoc, List.take_append_drop]] at nd
        have := (List.nodup_append.mp nd).2.2 p hm p (by
          rw [List.mem_iff_getElem?]
          exact ⟨0, by rw [List.getElem?_drop]; simpa using hk⟩)
        exact this rfl
      have gM : (s ++ [cRk kP n (mvB a b) (M ++ nw.take k)])[s.length]? = some (cRk kP n (mvB a b) (M ++ nw.take k)) := by simp
      have tl : (nw.take k).length ≤ 80 := by rw [List.length_take]; omega
      have hp2 := putF_k (xs := [.str (whoS p.1), .int (p.2 : Nat)]) (d := .d (.int (r : Nat))) gM (key_kP p) (by unfold DG; rw [List.length_map, List.length_append]; simp only [lim]; omega)
      rw [show PyData.tuple [.str (whoS p.1), .int (p.2 : Nat)] = kP p from rfl, put_new kP_inj hnp (hrk p hp), set_last] at hp2
      rw [g_name, Rc_some, Rs_seq, Rs_pu]
      simp only [Rs_nil, R_call, R_cons, R_nil, R_Var, R_C, R_bin, R_cmp, R_tcmp, R_tOr, R_tAnd, R_tNot, R_tVal, R_tTrue, R_ite, R_eAnd, R_eOr, R_eNot, R_neg, R_tup, R_isi, R_some, Rc_some, N.v_eq, N.v_ne, N.v_lt, N.v_le, N.v_gt, N.v_ge, N.v_add, N.v_sub, N.v_iadd, N.v_xor, N.v_int, N.tru_b, N.pd_d, N.data_nil, N.data_cons, N.len_t, N.v_tupT, N.g_name, N.isNone_n, N.isNone_t, N.isNone_i, N.v_isN, N.v_isNn, N.v_eqB, N.v_neB, List.set_cons_succ, List.set_cons_zero, List.getElem?_cons_succ, List.getElem?_cons_zero, Bool.not_true, Bool.not_false, Bool.false_eq_true, Bool.true_eq_false, eq_self, true_implies, false_implies, true_and, and_true, decide_true, decide_false, Int.zero_add, N.R_sl, N.R_it, R_oNone, R_oSome, wipeN, N.R_lst, N.R_mkF, N.R_mkT, N.R_meth, N.v_addT, Ri_rng1, Ri_rng2, Ri_seq, hp2]
      rw [thn_nx, Rs_nil, aft_nx, trimE_len (by simp), e1]
      exact ⟨rfl, by simp [wipeN]⟩
    · obtain ⟨rfl, rfl⟩ := hq
      rw [List.take_length, thn_nx, Rs_seq, Rs_aug]
      simp only [Rs_nil, R_call, R_cons, R_nil, R_Var, R_C, R_bin, R_cmp, R_tcmp, R_tOr, R_tAnd, R_tNot, R_tVal, R_tTrue, R_ite, R_eAnd, R_eOr, R_eNot, R_neg, R_tup, R_isi, R_some, Rc_some, N.v_eq, N.v_ne, N.v_lt, N.v_le, N.v_gt, N.v_ge, N.v_add, N.v_sub, N.v_iadd, N.v_xor, N.v_int, N.tru_b, N.pd_d, N.data_nil, N.data_cons, N.len_t, N.v_tupT, N.g_name, N.isNone_n, N.isNone_t, N.isNone_i, N.v_isN, N.v_isNn, N.v_eqB, N.v_neB, List.set_cons_succ, List.set_cons_zero, List.getElem?_cons_succ, List.getElem?_cons_zero, Bool.not_true, Bool.not_false, Bool.false_eq_true, Bool.true_eq_false, eq_self, true_implies, false_implies, true_and, and_true, decide_true, decide_false, Int.zero_add, N.R_sl, N.R_it, R_oNone, R_oSome, wipeN, N.R_lst, N.R_mkF, N.R_mkT, N.R_meth, N.v_addT, Ri_rng1, Ri_rng2, Ri_seq]
      rw [thn_nx, Rs_nil, aft_nx, trimE_len (by simp)]
      refine ⟨m - 1, by omega, r + 1, M ++ nw, by omega, hstep, rfl, ?_⟩
      rw [show ((r : Nat) : Int) + 1 = ((r + 1 : Nat) : Int) by omega]
      simp [wipeN]
end
end N

namespace N
open PySem L2 PyProof.Rows

theorem Ri_tupP {m : ME} {e : Lo} {s : Sto} {Qi : List D → Option (Nat × List D) → Sto → Prop} (h : R (m e s) fun d s1 => ∃ xs, d = .d (.tuple xs) ∧ Qi (xs.map .d) none s1) : Ri (iTupl m e s) Qi := by
  obtain ⟨_, _, h1, xs, rfl, q⟩ := h
  unfold iTupl
  simp only [h1]
  exact ⟨_, _, _, rfl, q⟩
theorem Rs_forLC {α : Type} {enc : α → D} {ck : Option (Nat × List D)} {g : MG} {M : MS} {dead : List Nat} {Qs : Fl → Lo → Sto → Prop} (Iv : Nat → Lo → Sto → Prop) (q : ∀ (N : Nat) (e : Lo) (s : Sto), Iv N e s → chkOk ck s) : ∀ (l : List α) (n : Nat) (e : Lo) (s : Sto), (∀ i x e s, l[i]? = some x → Iv (n + i) e s → Rc (g (enc x) e) fun e1 => Rs (M e1 s) (aft (Iv (n + i + 1)) Qs dead s)) → (∀ e s, Iv (n + l.length) e s → Qs .nx e s) → Iv n e s →
    Rs (forL ck (turnF g M dead) (l.map enc) e s) Qs
  | [], n, e, s, h, q2, h0 => by
    rw [List.map_nil]
    unfold forL
    rw [if_pos (q n e s h0), Rs_some]
    exact q2 e s h0
  | x :: l, n, e, s, h, q', h0 => by
    rw [List.map_cons]
    unfold forL
    rw [if_pos (q n e s h0)]
    obtain ⟨e1, h1, fl, e2, s2, h2, h3⟩ := h 0 x e s rfl h0
    have hh : ∀ i y e s, l[i]? = some y → Iv (n + 1 + i) e s → Rc (g (enc y) e) fun e1 => Rs (M e1 s) (aft (Iv (n + 1 + i + 1)) Qs dead s) := fun i y e s hy hi => by
      have := h (i + 1) y e s (by simpa using hy) (by rw [show n + (i + 1) = n + 1 + i by omega]; exact hi)
      rw [show n + (i + 1) = n + 1 + i by omega] at this
      exact this
    have hq : ∀ e s, Iv (n + 1 + l.length) e s → Qs .nx e s := fun e s hi => q' e s (by rw [show n + (x :: l).length = n + 1 + l.length by simp; omega]; exact hi)
    unfold turnF
    simp only [h1, h2]
    cases fl with
    | nx => exact Rs_forLC Iv q l (n + 1) _ _ hh hq h3
    | ct => exact Rs_forLC Iv q l (n + 1) _ _ hh hq h3
    | bk => exact Rs_some.mpr h3
    | rt d => exact Rs_some.mpr h3
theorem Rs_forC {α : Type} (l : List α) (enc : α → D) (j : Nat) {mi : MI} {g : MG} {M : MS} {dead : List Nat} {e : Lo} {s : Sto} {Qs : Fl → Lo → Sto → Prop} (Iv : Nat → Lo → Sto → Prop) (hi : Ri (mi e s) fun items ck s1 => items = l.map enc ∧ ck = some (j, l.map enc) ∧ Iv 0 e s1)
    (hc : ∀ N e s, Iv N e s → s[j]? = some (.lst (l.map enc))) (h : ∀ i x e s, l[i]? = some x → Iv i e s → Rc (g (enc x) e) fun e1 => Rs (M e1 s) (aft (Iv (i + 1)) Qs dead s)) (q : ∀ e s, Iv l.length e s → Qs .nx e s) : Rs (sFor mi g M dead e s) Qs := by
  obtain ⟨_, _, s1, h1, rfl, rfl, h2⟩ := hi
  unfold sFor
  simp only [h1]
  refine Rs_forLC Iv (fun N e s hi => ?_) l 0 e s1 (fun i x e s hx hi => ?_) (fun e s hi => q e s (by rwa [Nat.zero_add] at hi)) h2
  · unfold chkOk
    simp only [hc N e s hi]
  · rw [Nat.zero_add] at hi ⊢
    exact h i x e s hx hi
theorem even_testL (o : Option Nat) (e : Lo) (s : Sto) {k : Nat} (h : e[k]? = some (some (.d (encR o)))) : R (eAnd (eCmp (cIsN true) (eVar k) (eC .none)) (eCmp cEq (eBin oMul (eBin oDiv (eVar k) (eC (.int 2))) (eC (.int 2))) (eVar k)) e s) fun d s' => d = .d (.bool (evR o)) ∧ s' = s := by
  cases o with
  | none =>
    simp only [Rs_nil, R_call, R_cons, R_nil, R_Var, R_C, R_bin, R_cmp, R_tcmp, R_tOr, R_tAnd, R_tNot, R_tVal, R_tTrue, R_ite, R_eAnd, R_eOr, R_eNot, R_neg, R_tup, R_isi, R_some, Rc_some, N.v_eq, N.v_ne, N.v_lt, N.v_le, N.v_gt, N.v_ge, N.v_add, N.v_sub, N.v_iadd, N.v_xor, N.v_int, N.tru_b, N.pd_d, N.data_nil, N.data_cons, N.len_t, N.v_tupT, N.g_name, N.isNone_n, N.isNone_t, N.isNone_i, N.v_isN, N.v_isNn, N.v_eqB, N.v_neB, List.set_cons_succ, List.set_cons_zero, List.getElem?_cons_succ, List.getElem?_cons_zero, Bool.not_true, Bool.not_false, Bool.false_eq_true, Bool.true_eq_false, eq_self, true_implies, false_implies, true_and, and_true, decide_true, decide_false, Int.zero_add, N.R_sl, N.R_it, R_oNone, R_oSome, wipeN, N.R_lst, N.R_mkF, N.R_mkT, N.R_meth, N.v_addT, Ri_rng1, Ri_rng2, Ri_seq, h, encR]
    simp [evR]
  | some t =>
    simp only [Rs_nil, R_call, R_cons, R_nil, R_Var, R_C, R_bin, R_cmp, R_tcmp, R_tOr, R_tAnd, R_tNot, R_tVal, R_tTrue, R_ite, R_eAnd, R_eOr, R_eNot, R_neg, R_tup, R_isi, R_some, Rc_some, N.v_eq, N.v_ne, N.v_lt, N.v_le, N.v_gt, N.v_ge, N.v_add, N.v_sub, N.v_iadd, N.v_xor, N.v_int, N.tru_b, N.pd_d, N.data_nil, N.data_cons, N.len_t, N.v_tupT, N.g_name, N.isNone_n, N.isNone_t, N.isNone_i, N.v_isN, N.v_isNn, N.v_eqB, N.v_neB, List.set_cons_succ, List.set_cons_zero, List.getElem?_cons_succ, List.getElem?_cons_zero, Bool.not_true, Bool.not_false, Bool.false_eq_true, Bool.true_eq_false, eq_self, true_implies, false_implies, true_and, and_true, decide_true, decide_false, Int.zero_add, N.R_sl, N.R_it, R_oNone, R_oSome, wipeN, N.R_lst, N.R_mkF, N.R_mkT, N.R_meth, N.v_addT, Ri_rng1, Ri_rng2, Ri_seq, h, encR]
    rw [v_div (show (0 : Int) < 2 by decide) (by decide)]
    simp only [Rs_nil, R_call, R_cons, R_nil, R_Var, R_C, R_bin, R_cmp, R_tcmp, R_tOr, R_tAnd, R_tNot, R_tVal, R_tTrue, R_ite, R_eAnd, R_eOr, R_eNot, R_neg, R_tup, R_isi, R_some, Rc_some, N.v_eq, N.v_ne, N.v_lt, N.v_le, N.v_gt, N.v_ge, N.v_add, N.v_sub, N.v_iadd, N.v_xor, N.v_int, N.tru_b, N.pd_d, N.data_nil, N.data_cons, N.len_t, N.v_tupT, N.g_name, N.isNone_n, N.isNone_t, N.isNone_i, N.v_isN, N.v_isNn, N.v_eqB, N.v_neB, List.set_cons_succ, List.set_cons_zero, List.getElem?_cons_succ, List.getElem?_cons_zero, Bool.not_true, Bool.not_false, Bool.false_eq_true, Bool.true_eq_false, eq_self, true_implies, false_implies, true_and, and_true, decide_true, decide_false, Int.zero_add, N.R_sl, N.R_it, R_oNone, R_oSome, wipeN, N.R_lst, N.R_mkF, N.R_mkT, N.R_meth, N.v_addT, Ri_rng1, Ri_rng2, Ri_seq]
    rw [v_mulR (by decide)]
    simp only [Rs_nil, R_call, R_cons, R_nil, R_Var, R_C, R_bin, R_cmp, R_tcmp, R_tOr, R_tAnd, R_tNot, R_tVal, R_tTrue, R_ite, R_eAnd, R_eOr, R_eNot, R_neg, R_tup, R_isi, R_some, Rc_some, N.v_eq, N.v_ne, N.v_lt, N.v_le, N.v_gt, N.v_ge, N.v_add, N.v_sub, N.v_iadd, N.v_xor, N.v_int, N.tru_b, N.pd_d, N.data_nil, N.data_cons, N.len_t, N.v_tupT, N.g_name, N.isNone_n, N.isNone_t, N.isNone_i, N.v_isN, N.v_isNn, N.v_eqB, N.v_neB, List.set_cons_succ, List.set_cons_zero, List.getElem?_cons_succ, List.getElem?_cons_zero, Bool.not_true, Bool.not_false, Bool.false_eq_true, Bool.true_eq_false, eq_self, true_implies, false_implies, true_and, and_true, decide_true, decide_false, Int.zero_add, N.R_sl, N.R_it, R_oNone, R_oSome, wipeN, N.R_lst, N.R_mkF, N.R_mkT, N.R_meth, N.v_addT, Ri_rng1, Ri_rng2, Ri_seq]
    unfold evR
    congr 2
    exact decide_eq_decide.mpr (by omega)
theorem odd_testL (o : Option Nat) (e : Lo) (s : Sto) {k : Nat} (h : e[k]? = some (some (.d (encR o)))) : R (eAnd (eCmp (cIsN true) (eVar k) (eC .none)) (eCmp cNe (eBin oMul (eBin oDiv (eVar k) (eC (.int 2))) (eC (.int 2))) (eVar k)) e s) fun d s' => d = .d (.bool (odR o)) ∧ s' = s := by
  cases o with
  | none =>
    simp only [Rs_nil, R_call, R_cons, R_nil, R_Var, R_C, R_bin, R_cmp, R_tcmp, R_tOr, R_tAnd, R_tNot, R_tVal, R_tTrue, R_ite, R_eAnd, R_eOr, R_eNot, R_neg, R_tup, R_isi, R_some, Rc_some, N.v_eq, N.v_ne, N.v_lt, N.v_le, N.v_gt, N.v_ge, N.v_add, N.v_sub, N.v_iadd, N.v_xor, N.v_int, N.tru_b, N.pd_d, N.data_nil, N.data_cons, N.len_t, N.v_tupT, N.g_name, N.isNone_n, N.isNone_t, N.isNone_i, N.v_isN, N.v_isNn, N.v_eqB, N.v_neB, List.set_cons_succ, List.set_cons_zero, List.getElem?_cons_succ, List.getElem?_cons_zero, Bool.not_true, Bool.not_false, Bool.false_eq_true, Bool.true_eq_false, eq_self, true_implies, false_implies, true_and, and_true, decide_true, decide_false, Int.zero_add, N.R_sl, N.R_it, R_oNone, R_oSome, wipeN, N.R_lst, N.R_mkF, N.R_mkT, N.R_meth, N.v_addT, Ri_rng1, Ri_rng2, Ri_seq, h, encR]
    simp [odR]
  | some t =>
    simp only [Rs_nil, R_call, R_cons, R_nil, R_Var, R_C, R_bin, R_cmp, R_tcmp, R_tOr, R_tAnd, R_tNot, R_tVal, R_tTrue, R_ite, R_eAnd, R_eOr, R_eNot, R_neg, R_tup, R_isi, R_some, Rc_some, N.v_eq, N.v_ne, N.v_lt, N.v_le, N.v_gt, N.v_ge, N.v_add, N.v_sub, N.v_iadd, N.v_xor, N.v_int, N.tru_b, N.pd_d, N.data_nil, N.data_cons, N.len_t, N.v_tupT, N.g_name, N.isNone_n, N.isNone_t, N.isNone_i, N.v_isN, N.v_isNn, N.v_eqB, N.v_neB, List.set_cons_succ, List.set_cons_zero, List.getElem?_cons_succ, List.getElem?_cons_zero, Bool.not_true, Bool.not_false, Bool.false_eq_true, Bool.true_eq_false, eq_self, true_implies, false_implies, true_and, and_true, decide_true, decide_false, Int.zero_add, N.R_sl, N.R_it, R_oNone, R_oSome, wipeN, N.R_lst, N.R_mkF, N.R_mkT, N.R_meth, N.v_addT, Ri_rng1, Ri_rng2, Ri_seq, h, encR]
    rw [v_div (show (0 : Int) < 2 by decide) (by decide)]
    simp only [Rs_nil, R_call, R_cons, R_nil, R_Var, R_C, R_bin, R_cmp, R_tcmp, R_tOr, R_tAnd, R_tNot, R_tVal, R_tTrue, R_ite, R_eAnd, R_eOr, R_eNot, R_neg, R_tup, R_isi, R_some, Rc_some, N.v_eq, N.v_ne, N.v_lt, N.v_le, N.v_gt, N.v_ge, N.v_add, N.v_sub, N.v_iadd, N.v_xor, N.v_int, N.tru_b, N.pd_d, N.data_nil, N.data_cons, N.len_t, N.v_tupT, N.g_name, N.isNone_n, N.isNone_t, N.isNone_i, N.v_isN, N.v_isNn, N.v_eqB, N.v_neB, List.set_cons_succ, List.set_cons_zero, List.getElem?_cons_succ, List.getElem?_cons_zero, Bool.not_true, Bool.not_false, Bool.false_eq_true, Bool.true_eq_false, eq_self, true_implies, false_implies, true_and, and_true, decide_true, decide_false, Int.zero_add, N.R_sl, N.R_it, R_oNone, R_oSome, wipeN, N.R_lst, N.R_mkF, N.R_mkT, N.R_meth, N.v_addT, Ri_rng1, Ri_rng2, Ri_seq]
    rw [v_mulR (by decide)]
    simp only [Rs_nil, R_call, R_cons, R_nil, R_Var, R_C, R_bin, R_cmp, R_tcmp, R_tOr, R_tAnd, R_tNot, R_tVal, R_tTrue, R_ite, R_eAnd, R_eOr, R_eNot, R_neg, R_tup, R_isi, R_some, Rc_some, N.v_eq, N.v_ne, N.v_lt, N.v_le, N.v_gt, N.v_ge, N.v_add, N.v_sub, N.v_iadd, N.v_xor, N.v_int, N.tru_b, N.pd_d, N.data_nil, N.data_cons, N.len_t, N.v_tupT, N.g_name, N.isNone_n, N.isNone_t, N.isNone_i, N.v_isN, N.v_isNn, N.v_eqB, N.v_neB, List.set_cons_succ, List.set_cons_zero, List.getElem?_cons_succ, List.getElem?_cons_zero, Bool.not_true, Bool.not_false, Bool.false_eq_true, Bool.true_eq_false, eq_self, true_implies, false_implies, true_and, and_true, decide_true, decide_false, Int.zero_add, N.R_sl, N.R_it, R_oNone, R_oSome, wipeN, N.R_lst, N.R_mkF, N.R_mkT, N.R_meth, N.v_addT, Ri_rng1, Ri_rng2, Ri_seq]
    unfold odR
    congr 2
    rw [← decide_not]
    exact decide_eq_decide.mpr (by omega)
def ptsL (k : Nat) : List (Bool × Nat) := (List.range k).flatMap fun i => [(true, i), (false, i)]
theorem mem_ptsL {n : Nat} (p : Bool × Nat) : p ∈ ptsL n ↔ p.2 < n := by
  obtain ⟨w, i⟩ := p
  unfold ptsL
  rw [List.mem_flatMap]
  constructor
  · rintro ⟨x, hx, h⟩
    have hx := List.mem_range.mp hx
    cases w <;> simp at h <;> (subst h; exact hx)
  · intro h
    exact ⟨i, List.mem_range.mpr h, by cases w <;> simp⟩
theorem ptsL_succ (k : Nat) : ptsL (k + 1) = ptsL k ++ [(true, k), (false, k)] := by
  unfold ptsL
  rw [List.range_succ, List.flatMap_append]
  simp
theorem nd_ptsL (n : Nat) : (ptsL n).Nodup := by
  induction n with
  | zero => exact List.nodup_nil
  | succ n ih =>
    rw [ptsL_succ, List.nodup_append]
    refine ⟨ih, by simp, fun a ha b hb e => ?_⟩
    subst e
    have := (mem_ptsL a).mp ha
    rcases List.mem_cons.mp hb with rfl | hb
    · simp at this
    · rw [List.mem_singleton.mp hb] at this
      simp at this
theorem newB_app (n : Nat) (mv : Bool → Nat → List Nat) (r : Nat) (A B : List (Bool × Nat)) : newB n mv r (A ++ B) = newB n mv r A ++ newB n mv r B := List.filter_append ..
def ptsK (k t : Nat) : List (Bool × Nat) := ptsL k ++ (([true, false] : List Bool).take t).map fun w => (w, k)
section
variable {n : Nat} {a b : List (List Nat)}
theorem lranks_ok (h : Bd n a b) (s : Sto) : m__law_ranks s [.d (bdD a b)] = some (.d (rksD n (rkB n (mvB a b))), s) := by
  have ok := h.ok
  have n1 := h.n1
  have n40 := h.n40
  apply R.eq
  unfold m__law_ranks b__law_ranks
  rw [R_fn]
  refine ⟨rfl, ?_⟩
  simp only [List.map_cons, List.map_nil, List.cons_append, List.nil_append, List.length_cons, List.length_nil, Nat.reduceSub, Nat.reduceAdd, List.replicate_succ, List.replicate_zero]
  rw [Rs_seq, Rs_par]
  simp only [Rs_nil, R_call, R_cons, R_nil, R_Var, R_C, R_bin, R_cmp, R_tcmp, R_tOr, R_tAnd, R_tNot, R_tVal, R_tTrue, R_ite, R_eAnd, R_eOr, R_eNot, R_neg, R_tup, R_isi, R_some, Rc_some, N.v_eq, N.v_ne, N.v_lt, N.v_le, N.v_gt, N.v_ge, N.v_add, N.v_sub, N.v_iadd, N.v_xor, N.v_int, N.tru_b, N.pd_d, N.data_nil, N.data_cons, N.len_t, N.v_tupT, N.g_name, N.isNone_n, N.isNone_t, N.isNone_i, N.v_isN, N.v_isNn, N.v_eqB, N.v_neB, List.set_cons_succ, List.set_cons_zero, List.getElem?_cons_succ, List.getElem?_cons_zero, Bool.not_true, Bool.not_false, Bool.false_eq_true, Bool.true_eq_false, eq_self, true_implies, false_implies, true_and, and_true, decide_true, decide_false, Int.zero_add, N.R_sl, N.R_it, R_oNone, R_oSome, wipeN, N.R_lst, N.R_mkF, N.R_mkT, N.R_meth, N.v_addT, Ri_rng1, Ri_rng2, Ri_seq, it_bd0, len_side, h.la, R_dic]
  refine ⟨by simp, ?_⟩
  simp only [List.zip_cons_cons, List.zip_nil_right, List.foldl_cons, List.foldl_nil, List.set_cons_succ, List.set_cons_zero]
  have m2 : ∀ s, oMul s (.d (.int 2)) (.d (.int (n : Nat))) = some (.d (.int (2 * n : Nat)), s) := fun s => by
    rw [v_mulL (by decide)]
    rfl
  rw [thn_nx, Rs_seq]
  refine Rs_for (List.range (2 * n + 2)) (fun k => .d (.int (k : Nat))) (fun r e s' => ∃ (M : List (Bool × Nat)) (o5 o6 : Option PyData), MR n (mvB a b) r M ∧ s' = s ++ [cRk kL n (mvB a b) M] ∧ e = [some (.d (bdD a b)), some (.d (.int (n : Nat))), some (.r s.length), none, none, o5.map .d, o6.map .d, none, none, none, none, none, none]) ?_ (fun r x e s' hk hq => ?_) (fun e s' hq => ?_)
  · rw [Ri_rng1]
    simp only [Rs_nil, R_call, R_cons, R_nil, R_Var, R_C, R_bin, R_cmp, R_tcmp, R_tOr, R_tAnd, R_tNot, R_tVal, R_tTrue, R_ite, R_eAnd, R_eOr, R_eNot, R_neg, R_tup, R_isi, R_some, Rc_some, N.v_eq, N.v_ne, N.v_lt, N.v_le, N.v_gt, N.v_ge, N.v_add, N.v_sub, N.v_iadd, N.v_xor, N.v_int, N.tru_b, N.pd_d, N.data_nil, N.data_cons, N.len_t, N.v_tupT, N.g_name, N.isNone_n, N.isNone_t, N.isNone_i, N.v_isN, N.v_isNn, N.v_eqB, N.v_neB, List.set_cons_succ, List.set_cons_zero, List.getElem?_cons_succ, List.getElem?_cons_zero, Bool.not_true, Bool.not_false, Bool.false_eq_true, Bool.true_eq_false, eq_self, true_implies, false_implies, true_and, and_true, decide_true, decide_false, Int.zero_add, N.R_sl, N.R_it, R_oNone, R_oSome, wipeN, N.R_lst, N.R_mkF, N.R_mkT, N.R_meth, N.v_addT, Ri_rng1, Ri_rng2, Ri_seq, m2]
    exact ⟨⟨by omega, by omega⟩, rng0N (by omega), [], none, none, MR.nil, rfl, rfl⟩
  · obtain ⟨M, o5, o6, hM, rfl, rfl⟩ := hq
    have few := hM.few
    obtain ⟨hrn, rfl⟩ : r < 2 * n + 2 ∧ r = x := by
      obtain ⟨h1, h2⟩ := List.getElem?_eq_some_iff.mp hk
      simp at h1 h2
      exact ⟨h1, h2⟩
    have hstep := hM.step (nd_ptsL n) mem_ptsL
    have hrk : ∀ p ∈ newB n (mvB a b) r (ptsL n), rkB n (mvB a b) p.1 p.2 = some r := fun p hp => MR.rk ok mem_ptsL hp
    have nl : ∀ l : List (Bool × Nat), l.Nodup → (∀ p ∈ l, p.2 < n) → (newB n (mvB a b) r l).length ≤ 80 := fun l nd hl => by
      have h1 := nodup_le (m := ptsB n) nd fun p hp => mem_ptsB.mpr (hl p hp)
      rw [len_ptsB] at h1
      have h2 := List.length_filter_le (fun p => !(stg (mvB a b) r p.1 p.2).isSome && dueB (mvB a b) (stg (mvB a b) r) p.1 p.2) l
      unfold newB
      omega
    rw [g_name, Rc_some, Rs_seq, Rs_set]
    simp only [Rs_nil, R_call, R_cons, R_nil, R_Var, R_C, R_bin, R_cmp, R_tcmp, R_tOr, R_tAnd, R_tNot, R_tVal, R_tTrue, R_ite, R_eAnd, R_eOr, R_eNot, R_neg, R_tup, R_isi, R_some, Rc_some, N.v_eq, N.v_ne, N.v_lt, N.v_le, N.v_gt, N.v_ge, N.v_add, N.v_sub, N.v_iadd, N.v_xor, N.v_int, N.tru_b, N.pd_d, N.data_nil, N.data_cons, N.len_t, N.v_tupT, N.g_name, N.isNone_n, N.isNone_t, N.isNone_i, N.v_isN, N.v_isNn, N.v_eqB, N.v_neB, List.set_cons_succ, List.set_cons_zero, List.getElem?_cons_succ, List.getElem?_cons_zero, Bool.not_true, Bool.not_false, Bool.false_eq_true, Bool.true_eq_false, eq_self, true_implies, false_implies, true_and, and_true, decide_true, decide_false, Int.zero_add, N.R_sl, N.R_it, R_oNone, R_oSome, wipeN, N.R_lst, N.R_mkF, N.R_mkT, N.R_meth, N.v_addT, Ri_rng1, Ri_rng2, Ri_seq]
    refine ⟨by simp [lim], ?_⟩
    rw [thn_nx, Rs_seq]
    refine Rs_for (List.range n) (fun k => .d (.int (k : Nat))) (fun k e s' => s' = s ++ [cRk kL n (mvB a b) M] ++ [.lst (((newB n (mvB a b) r (ptsL k)).map kL).map .d)] ∧ ∃ o5 o6 : Option PyData, e = [some (.d (bdD a b)), some (.d (.int (n : Nat))), some (.r s.length), some (.d (.int (r : Nat))), some (.r (s ++ [cRk kL n (mvB a b) M]).length), o5.map .d, o6.map .d, none, none, none, none, none, none]) ?_ (fun k x e s' hk hq => ?_) (fun e s' hq => ?_)
    · rw [Ri_rng1]
      simp only [Rs_nil, R_call, R_cons, R_nil, R_Var, R_C, R_bin, R_cmp, R_tcmp, R_tOr, R_tAnd, R_tNot, R_tVal, R_tTrue, R_ite, R_eAnd, R_eOr, R_eNot, R_neg, R_tup, R_isi, R_some, Rc_some, N.v_eq, N.v_ne, N.v_lt, N.v_le, N.v_gt, N.v_ge, N.v_add, N.v_sub, N.v_iadd, N.v_xor, N.v_int, N.tru_b, N.pd_d, N.data_nil, N.data_cons, N.len_t, N.v_tupT, N.g_name, N.isNone_n, N.isNone_t, N.isNone_i, N.v_isN, N.v_isNn, N.v_eqB, N.v_neB, List.set_cons_succ, List.set_cons_zero, List.getElem?_cons_succ, List.getElem?_cons_zero, Bool.not_true, Bool.not_false, Bool.false_eq_true, Bool.true_eq_false, eq_self, true_implies, false_implies, true_and, and_true, decide_true, decide_false, Int.zero_add, N.R_sl, N.R_it, R_oNone, R_oSome, wipeN, N.R_lst, N.R_mkF, N.R_mkT, N.R_meth, N.v_addT, Ri_rng1, Ri_rng2, Ri_seq]
      exact ⟨⟨by omega, by omega⟩, rng0N rfl, by simp [newB, ptsL], o5, o6, rfl⟩
    · obtain ⟨rfl, o5, o6, rfl⟩ := hq
      obtain ⟨hkn, rfl⟩ : k < n ∧ k = x := by
        obtain ⟨h1, h2⟩ := List.getElem?_eq_some_iff.mp hk
        simp at h1 h2
        exact ⟨h1, h2⟩
      rw [g_name, Rc_some, Rs_seq]
      refine Rs_for ([true, false] : List Bool) (fun w => .d (.str (whoS w))) (fun t e s' => s' = s ++ [cRk kL n (mvB a b) M] ++ [.lst (((newB n (mvB a b) r (ptsK k t)).map kL).map .d)] ∧ ∃ o6 : Option PyData, e = [some (.d (bdD a b)), some (.d (.int (n : Nat))), some (.r s.length), some (.d (.int (r : Nat))), some (.r (s ++ [cRk kL n (mvB a b) M]).length), some (.d (.int (k : Nat))), o6.map .d, none, none, none, none, none, none]) ?_ (fun t w e s' ht hq => ?_) (fun e s' hq => ?_)
      · refine Ri_tupP ?_
        simp only [Rs_nil, R_call, R_cons, R_nil, R_Var, R_C, R_bin, R_cmp, R_tcmp, R_tOr, R_tAnd, R_tNot, R_tVal, R_tTrue, R_ite, R_eAnd, R_eOr, R_eNot, R_neg, R_tup, R_isi, R_some, Rc_some, N.v_eq, N.v_ne, N.v_lt, N.v_le, N.v_gt, N.v_ge, N.v_add, N.v_sub, N.v_iadd, N.v_xor, N.v_int, N.tru_b, N.pd_d, N.data_nil, N.data_cons, N.len_t, N.v_tupT, N.g_name, N.isNone_n, N.isNone_t, N.isNone_i, N.v_isN, N.v_isNn, N.v_eqB, N.v_neB, List.set_cons_succ, List.set_cons_zero, List.getElem?_cons_succ, List.getElem?_cons_zero, Bool.not_true, Bool.not_false, Bool.false_eq_true, Bool.true_eq_false, eq_self, true_implies, false_implies, true_and, and_true, decide_true, decide_false, Int.zero_add, N.R_sl, N.R_it, R_oNone, R_oSome, wipeN, N.R_lst, N.R_mkF, N.R_mkT, N.R_meth, N.v_addT, Ri_rng1, Ri_rng2, Ri_seq]
        refine ⟨by simp [lim], [.str (whoS true), .str (whoS false)], rfl, rfl, ?_⟩
        have e0 : ptsK k 0 = ptsL k := by simp [ptsK]
        rw [e0]
        first | exact ⟨rfl, rfl, o6, rfl⟩ | exact ⟨rfl, o6, rfl⟩
      · obtain ⟨rfl, o6, rfl⟩ := hq
        have eK : ptsK k (t + 1) = ptsK k t ++ [(w, k)] := by
          unfold ptsK
          rw [List.take_add_one, ht, List.map_append, List.append_assoc]
          rfl
        have lK : (ptsK k t).Nodup ∧ ∀ p ∈ ptsK k t, p.2 < n := by
          have sub : (ptsK k t).Sublist (ptsL (k + 1)) := by
            rw [ptsL_succ]
            unfold ptsK
            refine List.Sublist.append (List.Sublist.refl _) ?_
            exact ((List.take_sublist t _).map fun w => (w, k)).trans (by simp)
          refine ⟨(nd_ptsL (k + 1)).sublist sub, fun p hp => ?_⟩
          have := (mem_ptsL p).mp (sub.mem hp)
          omega
        have nl2 := nl _ lK.1 lK.2
        rw [eK, newB_app]
        generalize newB n (mvB a b) r (ptsK k t) = nw at nl2
        have g0 : ∀ g : List Cell, (s ++ [cRk kL n (mvB a b) M] ++ [Cell.lst ((nw.map kL).map D.d)] ++ g)[s.length]? = some (cRk kL n (mvB a b) M) := fun g => by simp
        have gn := g0 []
        rw [List.append_nil] at gn
        have hin := v_inD (neg := true) gn (key_kL (w, k))
        rw [if_pos rfl] at hin
        have hh := hM.has kL_inj (w := w) hkn
        rw [hh] at hin
        rw [g_name, Rc_some, Rs_seq]
        have skip : newB n (mvB a b) r [(w, k)] = [] → ∀ {o7 o9 o11 : Option D}, aft (fun e s' => s' = s ++ [cRk kL n (mvB a b) M] ++ [.lst (((nw ++ newB n (mvB a b) r [(w, k)]).map kL).map .d)] ∧ ∃ o6 : Option PyData, e = [some (.d (bdD a b)), some (.d (.int (n : Nat))), some (.r s.length), some (.d (.int (r : Nat))), some (.r (s ++ [cRk kL n (mvB a b) M]).length), some (.d (.int (k : Nat))), o6.map .d, none, none, none, none, none, none]) (fun _ _ _ => False) [7, 9, 11] (s ++ [cRk kL n (mvB a b) M] ++ [Cell.lst ((nw.map kL).map D.d)]) .nx [some (.d (bdD a b)), some (.d (.int (n : Nat))), some (.r s.length), some (.d (.int (r : Nat))), some (.r (s ++ [cRk kL n (mvB a b) M]).length), some (.d (.int (k : Nat))), some (.d (.str (whoS w))), o7, none, o9, none, o11, none] (s ++ [cRk kL n (mvB a b) M] ++ [Cell.lst ((nw.map kL).map D.d)]) := fun h0 o7 o9 o11 => by
          rw [h0, List.append_nil, aft_nx, trimE_len rfl]
          exact ⟨rfl, some (.str (whoS w)), by simp [wipeN]⟩
        have nn : ∀ {b1 b2 : Bool}, (stg (mvB a b) r w k).isSome = b1 → dueB (mvB a b) (stg (mvB a b) r) w k = b2 → newB n (mvB a b) r [(w, k)] = if !b1 && b2 then [(w, k)] else [] := fun {b1 b2} h1 h2 => by
          unfold newB
          rw [List.filter_cons, List.filter_nil]
          simp only [h1, h2]
        rw [Rs_if]
        simp only [Rs_nil, R_call, R_cons, R_nil, R_Var, R_C, R_bin, R_cmp, R_tcmp, R_tOr, R_tAnd, R_tNot, R_tVal, R_tTrue, R_ite, R_eAnd, R_eOr, R_eNot, R_neg, R_tup, R_isi, R_some, Rc_some, N.v_eq, N.v_ne, N.v_lt, N.v_le, N.v_gt, N.v_ge, N.v_add, N.v_sub, N.v_iadd, N.v_xor, N.v_int, N.tru_b, N.pd_d, N.data_nil, N.data_cons, N.len_t, N.v_tupT, N.g_name, N.isNone_n, N.isNone_t, N.isNone_i, N.v_isN, N.v_isNn, N.v_eqB, N.v_neB, List.set_cons_succ, List.set_cons_zero, List.getElem?_cons_succ, List.getElem?_cons_zero, Bool.not_true, Bool.not_false, Bool.false_eq_true, Bool.true_eq_false, eq_self, true_implies, false_implies, true_and, and_true, decide_true, decide_false, Int.zero_add, N.R_sl, N.R_it, R_oNone, R_oSome, wipeN, N.R_lst, N.R_mkF, N.R_mkT, N.R_meth, N.v_addT, Ri_rng1, Ri_rng2, Ri_seq]
        refine ⟨by simp [lim], ?_⟩
        rw [show cIn true (s ++ [cRk kL n (mvB a b) M] ++ [Cell.lst ((nw.map kL).map D.d)]) (.d (.tuple [.int (k : Nat), .str (whoS w)])) (.r s.length) = some (!(stg (mvB a b) r w k).isSome) from hin, Rc_some]
        refine ⟨fun h1 => ?_, fun h1 => ?_⟩
        · have h1 : (stg (mvB a b) r w k).isSome = false := by simpa using h1
          have ln := h.len (w := w) hkn
          rw [Rs_seq, Rs_set]
          refine R_lcm (mvB a b w k) (fun x => .d (.int (x : Nat))) (fun x => encR (stg (mvB a b) r (!w) x)) ?_ (fun x hx acc => ?_) (by simp only [lim]; omega) ?_
          · rw [Ri_seq]
            simp only [Rs_nil, R_call, R_cons, R_nil, R_Var, R_C, R_bin, R_cmp, R_tcmp, R_tOr, R_tAnd, R_tNot, R_tVal, R_tTrue, R_ite, R_eAnd, R_eOr, R_eNot, R_neg, R_tup, R_isi, R_some, Rc_some, N.v_eq, N.v_ne, N.v_lt, N.v_le, N.v_gt, N.v_ge, N.v_add, N.v_sub, N.v_iadd, N.v_xor, N.v_int, N.tru_b, N.pd_d, N.data_nil, N.data_cons, N.len_t, N.v_tupT, N.g_name, N.isNone_n, N.isNone_t, N.isNone_i, N.v_isN, N.v_isNn, N.v_eqB, N.v_neB, List.set_cons_succ, List.set_cons_zero, List.getElem?_cons_succ, List.getElem?_cons_zero, Bool.not_true, Bool.not_false, Bool.false_eq_true, Bool.true_eq_false, eq_self, true_implies, false_implies, true_and, and_true, decide_true, decide_false, Int.zero_add, N.R_sl, N.R_it, R_oNone, R_oSome, wipeN, N.R_lst, N.R_mkF, N.R_mkT, N.R_meth, N.v_addT, Ri_rng1, Ri_rng2, Ri_seq, lmv_ok h w hkn, tup]
            simp [nt, Function.comp_def]
          · have hxn := ok.lt w k hkn x hx
            rw [g_name, Rc_some]
            refine R_getT (x := kL (!w, x)) rfl (g0 [Cell.lst acc]) ?_ (key_kL _) ?_
            · simp only [Rs_nil, R_call, R_cons, R_nil, R_Var, R_C, R_bin, R_cmp, R_tcmp, R_tOr, R_tAnd, R_tNot, R_tVal, R_tTrue, R_ite, R_eAnd, R_eOr, R_eNot, R_neg, R_tup, R_isi, R_some, Rc_some, N.v_eq, N.v_ne, N.v_lt, N.v_le, N.v_gt, N.v_ge, N.v_add, N.v_sub, N.v_iadd, N.v_xor, N.v_int, N.tru_b, N.pd_d, N.data_nil, N.data_cons, N.len_t, N.v_tupT, N.g_name, N.isNone_n, N.isNone_t, N.isNone_i, N.v_isN, N.v_isNn, N.v_eqB, N.v_neB, List.set_cons_succ, List.set_cons_zero, List.getElem?_cons_succ, List.getElem?_cons_zero, Bool.not_true, Bool.not_false, Bool.false_eq_true, Bool.true_eq_false, eq_self, true_implies, false_implies, true_and, and_true, decide_true, decide_false, Int.zero_add, N.R_sl, N.R_it, R_oNone, R_oSome, wipeN, N.R_lst, N.R_mkF, N.R_mkT, N.R_meth, N.v_addT, Ri_rng1, Ri_rng2, Ri_seq, lother_ok]
              exact ⟨by simp [lim], rfl⟩
            · rw [hM.get kL_inj ok hxn]
              exact ⟨rfl, rfl⟩
          rw [show (mvB a b w k).map (fun x => encR (stg (mvB a b) r (!w) x)) = ((mvB a b w k).map (stg (mvB a b) r (!w))).map encR by rw [List.map_map]; rfl]
          rw [thn_nx, Rs_seq, Rs_set]
          simp only [R_call, R_cons, R_nil]
          refine R_lcm ((mvB a b w k).map (stg (mvB a b) r (!w))) (fun o => .d (encR o)) (fun o => .bool (evR o)) ?_ (fun o ho acc => ?_) (by rw [List.length_map]; simp only [lim]; omega) ?_
          · rw [Ri_seq]
            simp only [Rs_nil, R_call, R_cons, R_nil, R_Var, R_C, R_bin, R_cmp, R_tcmp, R_tOr, R_tAnd, R_tNot, R_tVal, R_tTrue, R_ite, R_eAnd, R_eOr, R_eNot, R_neg, R_tup, R_isi, R_some, Rc_some, N.v_eq, N.v_ne, N.v_lt, N.v_le, N.v_gt, N.v_ge, N.v_add, N.v_sub, N.v_iadd, N.v_xor, N.v_int, N.tru_b, N.pd_d, N.data_nil, N.data_cons, N.len_t, N.v_tupT, N.g_name, N.isNone_n, N.isNone_t, N.isNone_i, N.v_isN, N.v_isNn, N.v_eqB, N.v_neB, List.set_cons_succ, List.set_cons_zero, List.getElem?_cons_succ, List.getElem?_cons_zero, Bool.not_true, Bool.not_false, Bool.false_eq_true, Bool.true_eq_false, eq_self, true_implies, false_implies, true_and, and_true, decide_true, decide_false, Int.zero_add, N.R_sl, N.R_it, R_oNone, R_oSome, wipeN, N.R_lst, N.R_mkF, N.R_mkT, N.R_meth, N.v_addT, Ri_rng1, Ri_rng2, Ri_seq]
            simp [Function.comp_def]
          · rw [g_name, Rc_some]
            exact even_testL o _ _ rfl
          rw [v_any, R_some, thn_nx, Rs_seq, Rs_set]
          simp only [R_call, R_cons, R_nil]
          refine R_lcm ((mvB a b w k).map (stg (mvB a b) r (!w))) (fun o => .d (encR o)) (fun o => .bool (odR o)) ?_ (fun o ho acc => ?_) (by rw [List.length_map]; simp only [lim]; omega) ?_
          · rw [Ri_seq]
            simp only [Rs_nil, R_call, R_cons, R_nil, R_Var, R_C, R_bin, R_cmp, R_tcmp, R_tOr, R_tAnd, R_tNot, R_tVal, R_tTrue, R_ite, R_eAnd, R_eOr, R_eNot, R_neg, R_tup, R_isi, R_some, Rc_some, N.v_eq, N.v_ne, N.v_lt, N.v_le, N.v_gt, N.v_ge, N.v_add, N.v_sub, N.v_iadd, N.v_xor, N.v_int, N.tru_b, N.pd_d, N.data_nil, N.data_cons, N.len_t, N.v_tupT, N.g_name, N.isNone_n, N.isNone_t, N.isNone_i, N.v_isN, N.v_isNn, N.v_eqB, N.v_neB, List.set_cons_succ, List.set_cons_zero, List.getElem?_cons_succ, List.getElem?_cons_zero, Bool.not_true, Bool.not_false, Bool.false_eq_true, Bool.true_eq_false, eq_self, true_implies, false_implies, true_and, and_true, decide_true, decide_false, Int.zero_add, N.R_sl, N.R_it, R_oNone, R_oSome, wipeN, N.R_lst, N.R_mkF, N.R_mkT, N.R_meth, N.v_addT, Ri_rng1, Ri_rng2, Ri_seq]
            simp [Function.comp_def]
          · rw [g_name, Rc_some]
            exact odd_testL o _ _ rfl
          rw [all_map, R_some, thn_nx, Rs_seq, Rs_if]
          rw [show ((mvB a b w k).map (stg (mvB a b) r (!w))).any evR = wonB (mvB a b) (stg (mvB a b) r) w k by unfold wonB; rw [List.any_map]; rfl]
          rw [show ((mvB a b w k).map (stg (mvB a b) r (!w))).all odR = lostB (mvB a b) (stg (mvB a b) r) w k by unfold lostB; rw [List.all_map]; rfl]
          simp only [Rs_nil, R_call, R_cons, R_nil, R_Var, R_C, R_bin, R_cmp, R_tcmp, R_tOr, R_tAnd, R_tNot, R_tVal, R_tTrue, R_ite, R_eAnd, R_eOr, R_eNot, R_neg, R_tup, R_isi, R_some, Rc_some, N.v_eq, N.v_ne, N.v_lt, N.v_le, N.v_gt, N.v_ge, N.v_add, N.v_sub, N.v_iadd, N.v_xor, N.v_int, N.tru_b, N.pd_d, N.data_nil, N.data_cons, N.len_t, N.v_tupT, N.g_name, N.isNone_n, N.isNone_t, N.isNone_i, N.v_isN, N.v_isNn, N.v_eqB, N.v_neB, List.set_cons_succ, List.set_cons_zero, List.getElem?_cons_succ, List.getElem?_cons_zero, Bool.not_true, Bool.not_false, Bool.false_eq_true, Bool.true_eq_false, eq_self, true_implies, false_implies, true_and, and_true, decide_true, decide_false, Int.zero_add, N.R_sl, N.R_it, R_oNone, R_oSome, wipeN, N.R_lst, N.R_mkF, N.R_mkT, N.R_meth, N.v_addT, Ri_rng1, Ri_rng2, Ri_seq]
          have gN : (s ++ [cRk kL n (mvB a b) M] ++ [Cell.lst ((nw.map kL).map D.d)])[(s ++ [cRk kL n (mvB a b) M]).length]? = some (.lst ((nw.map kL).map .d)) := by simp
          have add : dueB (mvB a b) (stg (mvB a b) r) w k = true → ∀ {o7 : Option D} {o9 o11 : Option D}, Rs (sSeq (sExpr (eMeth fApp (eVar 4) (aCons (eTup (aCons (eVar 5) (aCons (eVar 6) aNil))) aNil))) sNil [some (.d (bdD a b)), some (.d (.int (n : Nat))), some (.r s.length), some (.d (.int (r : Nat))), some (.r (s ++ [cRk kL n (mvB a b) M]).length), some (.d (.int (k : Nat))), some (.d (.str (whoS w))), o7, none, o9, none, o11, none] (s ++ [cRk kL n (mvB a b) M] ++ [Cell.lst ((nw.map kL).map D.d)])) (fun fl e' s' => fl = .nx ∧ e' = [some (.d (bdD a b)), some (.d (.int (n : Nat))), some (.r s.length), some (.d (.int (r : Nat))), some (.r (s ++ [cRk kL n (mvB a b) M]).length), some (.d (.int (k : Nat))), some (.d (.str (whoS w))), o7, none, o9, none, o11, none] ∧ s' = s ++ [cRk kL n (mvB a b) M] ++ [.lst (((nw ++ newB n (mvB a b) r [(w, k)]).map kL).map .d)]) := fun hd o7 o9 o11 => by
            rw [nn h1 hd, Rs_seq, Rs_expr]
            simp only [Rs_nil, R_call, R_cons, R_nil, R_Var, R_C, R_bin, R_cmp, R_tcmp, R_tOr, R_tAnd, R_tNot, R_tVal, R_tTrue, R_ite, R_eAnd, R_eOr, R_eNot, R_neg, R_tup, R_isi, R_some, Rc_some, N.v_eq, N.v_ne, N.v_lt, N.v_le, N.v_gt, N.v_ge, N.v_add, N.v_sub, N.v_iadd, N.v_xor, N.v_int, N.tru_b, N.pd_d, N.data_nil, N.data_cons, N.len_t, N.v_tupT, N.g_name, N.isNone_n, N.isNone_t, N.isNone_i, N.v_isN, N.v_isNn, N.v_eqB, N.v_neB, List.set_cons_succ, List.set_cons_zero, List.getElem?_cons_succ, List.getElem?_cons_zero, Bool.not_true, Bool.not_false, Bool.false_eq_true, Bool.true_eq_false, eq_self, true_implies, false_implies, true_and, and_true, decide_true, decide_false, Int.zero_add, N.R_sl, N.R_it, R_oNone, R_oSome, wipeN, N.R_lst, N.R_mkF, N.R_mkT, N.R_meth, N.v_addT, Ri_rng1, Ri_rng2, Ri_seq, gN]
            refine ⟨by simp [lim], ?_⟩
            rw [v_app]
            refine ⟨by rw [List.length_map, List.length_map]; simp only [lim]; omega, ?_⟩
            rw [set_last, thn_nx, Rs_nil]
            exact ⟨rfl, rfl, by simp [kL]⟩
          have tail : ∀ {o7 o9 o11 : Option D}, aft (fun e s' => s' = s ++ [cRk kL n (mvB a b) M] ++ [.lst (((nw ++ newB n (mvB a b) r [(w, k)]).map kL).map .d)] ∧ ∃ o6 : Option PyData, e = [some (.d (bdD a b)), some (.d (.int (n : Nat))), some (.r s.length), some (.d (.int (r : Nat))), some (.r (s ++ [cRk kL n (mvB a b) M]).length), some (.d (.int (k : Nat))), o6.map .d, none, none, none, none, none, none]) (fun _ _ _ => False) [7, 9, 11] (s ++ [cRk kL n (mvB a b) M] ++ [Cell.lst ((nw.map kL).map D.d)]) .nx [some (.d (bdD a b)), some (.d (.int (n : Nat))), some (.r s.length), some (.d (.int (r : Nat))), some (.r (s ++ [cRk kL n (mvB a b) M]).length), some (.d (.int (k : Nat))), some (.d (.str (whoS w))), o7, none, o9, none, o11, none] (s ++ [cRk kL n (mvB a b) M] ++ [.lst (((nw ++ newB n (mvB a b) r [(w, k)]).map kL).map .d)]) := fun {o7 o9 o11} => by
            rw [aft_nx, trimE_len (by simp)]
            exact ⟨rfl, some (.str (whoS w)), by simp [wipeN]⟩
          have dd : dueB (mvB a b) (stg (mvB a b) r) w k = (wonB (mvB a b) (stg (mvB a b) r) w k || lostB (mvB a b) (stg (mvB a b) r) w k) := rfl
          generalize wonB (mvB a b) (stg (mvB a b) r) w k = b1 at dd
          generalize lostB (mvB a b) (stg (mvB a b) r) w k = b2 at dd
          refine ⟨fun hb1 => ⟨fun hb2 => ?_, fun hb2 => ?_⟩, fun hb1 => ?_⟩
          · refine (add (by rw [dd, hb2, Bool.or_true])).imp fun fl e' s' ⟨q1, q2, q3⟩ => ?_
            subst q1 q2 q3
            rw [thn_nx, Rs_nil, thn_nx, Rs_nil]
            exact tail
          · try rw [Rs_nil]
            rw [thn_nx, Rs_nil, thn_nx, Rs_nil]
            refine skip ?_
            rw [nn h1 dd, hb1, hb2]
            rfl
          · refine (add (by rw [dd, hb1, Bool.true_or])).imp fun fl e' s' ⟨q1, q2, q3⟩ => ?_
            subst q1 q2 q3
            rw [thn_nx, Rs_nil, thn_nx, Rs_nil]
            exact tail
        · have h1 : (stg (mvB a b) r w k).isSome = true := by simpa using h1
          try rw [Rs_nil]
          rw [thn_nx, Rs_nil]
          exact skip (nn h1 rfl)
      · obtain ⟨rfl, o6, rfl⟩ := hq
        have e0 : ptsK k ([true, false] : List Bool).length = ptsL (k + 1) := by
          rw [ptsL_succ]
          rfl
        rw [e0, thn_nx, Rs_nil, aft_nx, trimE_len (by simp)]
        exact ⟨rfl, some (.int (k : Nat)), o6, by simp [wipeN]⟩
    · obtain ⟨rfl, o5, o6, rfl⟩ := hq
      rw [List.length_range]
      have nl2 := nl _ (nd_ptsL n) fun p hp => (mem_ptsL p).mp hp
      generalize newB n (mvB a b) r (ptsL n) = nw at hstep hrk nl2
      have gN : ∀ M : List (Bool × Nat), (s ++ [cRk kL n (mvB a b) M] ++ [Cell.lst ((nw.map kL).map D.d)])[s.length + 1]? = some (.lst ((nw.map kL).map .d)) := fun M => by simp
      have el : (s ++ [cRk kL n (mvB a b) M]).length = s.length + 1 := by simp
      rw [el, thn_nx, Rs_seq]
      refine Rs_forC nw (fun p => .d (kL p)) (s.length + 1) (fun k e s' => s' = s ++ [cRk kL n (mvB a b) (M ++ nw.take k)] ++ [Cell.lst ((nw.map kL).map D.d)] ∧ e = [some (.d (bdD a b)), some (.d (.int (n : Nat))), some (.r s.length), some (.d (.int (r : Nat))), some (.r (s.length + 1)), o5.map .d, o6.map .d, none, none, none, none, none, none]) ?_ (fun k e s' hq => ?_) (fun k p e s' hk hq => ?_) (fun e s' hq => ?_)
      · rw [Ri_seq]
        simp only [Rs_nil, R_call, R_cons, R_nil, R_Var, R_C, R_bin, R_cmp, R_tcmp, R_tOr, R_tAnd, R_tNot, R_tVal, R_tTrue, R_ite, R_eAnd, R_eOr, R_eNot, R_neg, R_tup, R_isi, R_some, Rc_some, N.v_eq, N.v_ne, N.v_lt, N.v_le, N.v_gt, N.v_ge, N.v_add, N.v_sub, N.v_iadd, N.v_xor, N.v_int, N.tru_b, N.pd_d, N.data_nil, N.data_cons, N.len_t, N.v_tupT, N.g_name, N.isNone_n, N.isNone_t, N.isNone_i, N.v_isN, N.v_isNn, N.v_eqB, N.v_neB, List.set_cons_succ, List.set_cons_zero, List.getElem?_cons_succ, List.getElem?_cons_zero, Bool.not_true, Bool.not_false, Bool.false_eq_true, Bool.true_eq_false, eq_self, true_implies, false_implies, true_and, and_true, decide_true, decide_false, Int.zero_add, N.R_sl, N.R_it, R_oNone, R_oSome, wipeN, N.R_lst, N.R_mkF, N.R_mkT, N.R_meth, N.v_addT, Ri_rng1, Ri_rng2, Ri_seq, gN]
        exact ⟨by simp [Function.comp_def], by simp [Function.comp_def], by simp⟩
      · obtain ⟨rfl, rfl⟩ := hq
        rw [gN]
        simp [Function.comp_def]
      · obtain ⟨rfl, rfl⟩ := hq
        have hp := List.mem_of_getElem? hk
        have hkl := (List.getElem?_eq_some_iff.mp hk).1
        have e1 : M ++ nw.take (k + 1) = (M ++ nw.take k) ++ [p] := by
          rw [List.take_add_one, hk, List.append_assoc]
          rfl
        have hnp : p ∉ M ++ nw.take k := fun hm => by
          have nd := hstep.nd
          rw [show M ++ nw = (M ++ nw.take k) ++ (nw.drop k) by rw [List.append_assoc, List.take_append_drop]] at nd
          have := (List.nodup_append.mp nd).2.2 p hm p (by
            rw [List.mem_iff_getElem?]
            exact ⟨0, by rw [List.getElem?_drop]; simpa using hk⟩)
          exact this rfl
        have gM : (s ++ [cRk kL n (mvB a b) (M ++ nw.take k)] ++ [Cell.lst ((nw.map kL).map D.d)])[s.length]? = some (cRk kL n (mvB a b) (M ++ nw.take k)) := by simp
        have tl : (nw.take k).length ≤ 80 := by rw [List.length_take]; omega
        have hp2 := putF_k (xs := [.int (p.2 : Nat), .str (whoS p.1)]) (d := .d (.int (r : Nat))) gM (key_kL p) (by unfold DG; rw [List.length_map, List.length_append]; simp only [lim]; omega)
        rw [show PyData.tuple [.int (p.2 : Nat), .str (whoS p.1)] = kL p from rfl, put_new kL_inj hnp (hrk p hp), List.set_append_left _ _ (by simp), set_last] at hp2
        rw [g_name, Rc_some, Rs_seq, Rs_pu]
        simp only [Rs_nil, R_call, R_cons, R_nil, R_Var, R_C, R_bin, R_cmp, R_tcmp, R_tOr, R_tAnd, R_tNot, R_tVal, R_tTrue, R_ite, R_eAnd, R_eOr, R_eNot, R_neg, R_tup, R_isi, R_some, Rc_some, N.v_eq, N.v_ne, N.v_lt, N.v_le, N.v_gt, N.v_ge, N.v_add, N.v_sub, N.v_iadd, N.v_xor, N.v_int, N.tru_b, N.pd_d, N.data_nil, N.data_cons, N.len_t, N.v_tupT, N.g_name, N.isNone_n, N.isNone_t, N.isNone_i, N.v_isN, N.v_isNn, N.v_eqB, N.v_neB, List.set_cons_succ, List.set_cons_zero, List.getElem?_cons_succ, List.getElem?_cons_zero, Bool.not_true, Bool.not_false, Bool.false_eq_true, Bool.true_eq_false, eq_self, true_implies, false_implies, true_and, and_true, decide_true, decide_false, Int.zero_add, N.R_sl, N.R_it, R_oNone, R_oSome, wipeN, N.R_lst, N.R_mkF, N.R_mkT, N.R_meth, N.v_addT, Ri_rng1, Ri_rng2, Ri_seq, hp2]
        rw [thn_nx, Rs_nil, aft_nx, trimE_len (by simp), e1]
        exact ⟨rfl, by simp [wipeN]⟩
      · obtain ⟨rfl, rfl⟩ := hq
        rw [List.take_length, thn_nx, Rs_nil, aft_nx]
        have hb : (cRk kL n (mvB a b) (M ++ nw)).below (s.length + 1) := DG_below kL (fun p => encR (rkB n (mvB a b) p.1 p.2)) (M ++ nw) _
        rw [trimE_swap hb (by
          intro i j hj
          have hm := List.mem_of_getElem? hj
          cases o5 <;> cases o6 <;> simp [wipeN] at hm <;> omega)]
        exact ⟨M ++ nw, o5, o6, hstep, rfl, by simp [wipeN]⟩
  · obtain ⟨M, o5, o6, hM, rfl, rfl⟩ := hq
    rw [List.length_range] at hM
    rw [thn_nx, Rs_seq, Rs_ret]
    simp only [R_call, R_cons, R_nil]
    refine R_lcm ([true, false] : List Bool) (fun w => .d (.str (whoS w))) (fun w => rowR n (rkB n (mvB a b)) w) ?_ (fun w hw acc => ?_) (by simp [lim]) ?_
    · refine Ri_tupP ?_
      simp only [Rs_nil, R_call, R_cons, R_nil, R_Var, R_C, R_bin, R_cmp, R_tcmp, R_tOr, R_tAnd, R_tNot, R_tVal, R_tTrue, R_ite, R_eAnd, R_eOr, R_eNot, R_neg, R_tup, R_isi, R_some, Rc_some, N.v_eq, N.v_ne, N.v_lt, N.v_le, N.v_gt, N.v_ge, N.v_add, N.v_sub, N.v_iadd, N.v_xor, N.v_int, N.tru_b, N.pd_d, N.data_nil, N.data_cons, N.len_t, N.v_tupT, N.g_name, N.isNone_n, N.isNone_t, N.isNone_i, N.v_isN, N.v_isNn, N.v_eqB, N.v_neB, List.set_cons_succ, List.set_cons_zero, List.getElem?_cons_succ, List.getElem?_cons_zero, Bool.not_true, Bool.not_false, Bool.false_eq_true, Bool.true_eq_false, eq_self, true_implies, false_implies, true_and, and_true, decide_true, decide_false, Int.zero_add, N.R_sl, N.R_it, R_oNone, R_oSome, wipeN, N.R_lst, N.R_mkF, N.R_mkT, N.R_meth, N.v_addT, Ri_rng1, Ri_rng2, Ri_seq]
      first | exact ⟨by simp [lim], [.str (whoS true), .str (whoS false)], rfl, rfl, rfl, rfl⟩ | exact ⟨by simp [lim], [.str (whoS true), .str (whoS false)], rfl, rfl⟩
    · rw [g_name, Rc_some]
      simp only [R_call, R_cons, R_nil]
      refine R_lcm (List.range n) (fun i => .d (.int (i : Nat))) (fun i => encR (rkB n (mvB a b) w i)) ?_ (fun i hi acc2 => ?_) (by simp only [lim, List.length_range]; omega) ?_
      · rw [Ri_rng1]
        simp only [Rs_nil, R_call, R_cons, R_nil, R_Var, R_C, R_bin, R_cmp, R_tcmp, R_tOr, R_tAnd, R_tNot, R_tVal, R_tTrue, R_ite, R_eAnd, R_eOr, R_eNot, R_neg, R_tup, R_isi, R_some, Rc_some, N.v_eq, N.v_ne, N.v_lt, N.v_le, N.v_gt, N.v_ge, N.v_add, N.v_sub, N.v_iadd, N.v_xor, N.v_int, N.tru_b, N.pd_d, N.data_nil, N.data_cons, N.len_t, N.v_tupT, N.g_name, N.isNone_n, N.isNone_t, N.isNone_i, N.v_isN, N.v_isNn, N.v_eqB, N.v_neB, List.set_cons_succ, List.set_cons_zero, List.getElem?_cons_succ, List.getElem?_cons_zero, Bool.not_true, Bool.not_false, Bool.false_eq_true, Bool.true_eq_false, eq_self, true_implies, false_implies, true_and, and_true, decide_true, decide_false, Int.zero_add, N.R_sl, N.R_it, R_oNone, R_oSome, wipeN, N.R_lst, N.R_mkF, N.R_mkT, N.R_meth, N.v_addT, Ri_rng1, Ri_rng2, Ri_seq]
        exact ⟨⟨by omega, by omega⟩, rng0N rfl⟩
      · have hi := List.mem_range.mp hi
        rw [g_name, Rc_some]
        refine R_getT (j := s.length) (kvs := DG kL (vRk n (mvB a b)) M) (x := kL (w, i)) rfl (by simp) ?_ (key_kL _) ?_
        · simp only [Rs_nil, R_call, R_cons, R_nil, R_Var, R_C, R_bin, R_cmp, R_tcmp, R_tOr, R_tAnd, R_tNot, R_tVal, R_tTrue, R_ite, R_eAnd, R_eOr, R_eNot, R_neg, R_tup, R_isi, R_some, Rc_some, N.v_eq, N.v_ne, N.v_lt, N.v_le, N.v_gt, N.v_ge, N.v_add, N.v_sub, N.v_iadd, N.v_xor, N.v_int, N.tru_b, N.pd_d, N.data_nil, N.data_cons, N.len_t, N.v_tupT, N.g_name, N.isNone_n, N.isNone_t, N.isNone_i, N.v_isN, N.v_isNn, N.v_eqB, N.v_neB, List.set_cons_succ, List.set_cons_zero, List.getElem?_cons_succ, List.getElem?_cons_zero, Bool.not_true, Bool.not_false, Bool.false_eq_true, Bool.true_eq_false, eq_self, true_implies, false_implies, true_and, and_true, decide_true, decide_false, Int.zero_add, N.R_sl, N.R_it, R_oNone, R_oSome, wipeN, N.R_lst, N.R_mkF, N.R_mkT, N.R_meth, N.v_addT, Ri_rng1, Ri_rng2, Ri_seq]
          exact ⟨by simp [lim], rfl⟩
        · rw [hM.get kL_inj ok hi, rk_up ok (by omega) hi]
          exact ⟨rfl, rfl⟩
      · rw [v_tupL, R_some]
        exact ⟨rfl, rfl⟩
    · rw [v_tupL, R_some, thn_rt]
      exact R_retd.mpr ⟨rfl, by simp⟩
end
end N

namespace N
open PySem L2 PyProof.Rows

theorem best_test (A B : Option Nat) (e : Lo) (s : Sto) {p q : Nat} (hp : e[p]? = some (some (.d (encR A)))) (hq : e[q]? = some (some (.d (encR B)))) : R (tOr (tAnd (tCmp (cIsN false) (eVar q) (eC .none)) (tCmp (cIsN false) (eVar p) (eC .none))) (tAnd (tCmp (cIsN true) (eVar p) (eC .none)) (tAnd (tCmp (cIsN true) (eVar q) (eC .none)) (tCmp cEq (eVar q) (eBin oSub (eVar p) (eC (.int 1)))))) e s) fun b s' => b = okR A B ∧ s' = s := by
  cases A <;> cases B
  · simp only [Rs_nil, R_call, R_cons, R_nil, R_Var, R_C, R_bin, R_cmp, R_tcmp, R_tOr, R_tAnd, R_tNot, R_tVal, R_tTrue, R_ite, R_eAnd, R_eOr, R_eNot, R_neg, R_tup, R_isi, R_some, Rc_some, N.v_eq, N.v_ne, N.v_lt, N.v_le, N.v_gt, N.v_ge, N.v_add, N.v_sub, N.v_iadd, N.v_xor, N.v_int, N.tru_b, N.pd_d, N.data_nil, N.data_cons, N.len_t, N.v_tupT, N.g_name, N.isNone_n, N.isNone_t, N.isNone_i, N.v_isN, N.v_isNn, N.v_eqB, N.v_neB, List.set_cons_succ, List.set_cons_zero, List.getElem?_cons_succ, List.getElem?_cons_zero, Bool.not_true, Bool.not_false, Bool.false_eq_true, Bool.true_eq_false, eq_self, true_implies, false_implies, true_and, and_true, decide_true, decide_false, Int.zero_add, N.R_sl, N.R_it, R_oNone, R_oSome, wipeN, N.R_lst, N.R_mkF, N.R_mkT, N.R_meth, N.v_addT, Ri_rng1, Ri_rng2, Ri_seq, hp, hq, encR]
    simp [okR]
  · simp only [Rs_nil, R_call, R_cons, R_nil, R_Var, R_C, R_bin, R_cmp, R_tcmp, R_tOr, R_tAnd, R_tNot, R_tVal, R_tTrue, R_ite, R_eAnd, R_eOr, R_eNot, R_neg, R_tup, R_isi, R_some, Rc_some, N.v_eq, N.v_ne, N.v_lt, N.v_le, N.v_gt, N.v_ge, N.v_add, N.v_sub, N.v_iadd, N.v_xor, N.v_int, N.tru_b, N.pd_d, N.data_nil, N.data_cons, N.len_t, N.v_tupT, N.g_name, N.isNone_n, N.isNone_t, N.isNone_i, N.v_isN, N.v_isNn, N.v_eqB, N.v_neB, List.set_cons_succ, List.set_cons_zero, List.getElem?_cons_succ, List.getElem?_cons_zero, Bool.not_true, Bool.not_false, Bool.false_eq_true, Bool.true_eq_false, eq_self, true_implies, false_implies, true_and, and_true, decide_true, decide_false, Int.zero_add, N.R_sl, N.R_it, R_oNone, R_oSome, wipeN, N.R_lst, N.R_mkF, N.R_mkT, N.R_meth, N.v_addT, Ri_rng1, Ri_rng2, Ri_seq, hp, hq, encR]
    simp [okR]
  · simp only [Rs_nil, R_call, R_cons, R_nil, R_Var, R_C, R_bin, R_cmp, R_tcmp, R_tOr, R_tAnd, R_tNot, R_tVal, R_tTrue, R_ite, R_eAnd, R_eOr, R_eNot, R_neg, R_tup, R_isi, R_some, Rc_some, N.v_eq, N.v_ne, N.v_lt, N.v_le, N.v_gt, N.v_ge, N.v_add, N.v_sub, N.v_iadd, N.v_xor, N.v_int, N.tru_b, N.pd_d, N.data_nil, N.data_cons, N.len_t, N.v_tupT, N.g_name, N.isNone_n, N.isNone_t, N.isNone_i, N.v_isN, N.v_isNn, N.v_eqB, N.v_neB, List.set_cons_succ, List.set_cons_zero, List.getElem?_cons_succ, List.getElem?_cons_zero, Bool.not_true, Bool.not_false, Bool.false_eq_true, Bool.true_eq_false, eq_self, true_implies, false_implies, true_and, and_true, decide_true, decide_false, Int.zero_add, N.R_sl, N.R_it, R_oNone, R_oSome, wipeN, N.R_lst, N.R_mkF, N.R_mkT, N.R_meth, N.v_addT, Ri_rng1, Ri_rng2, Ri_seq, hp, hq, encR]
    simp [okR]
  · rename_i x y
    simp only [Rs_nil, R_call, R_cons, R_nil, R_Var, R_C, R_bin, R_cmp, R_tcmp, R_tOr, R_tAnd, R_tNot, R_tVal, R_tTrue, R_ite, R_eAnd, R_eOr, R_eNot, R_neg, R_tup, R_isi, R_some, Rc_some, N.v_eq, N.v_ne, N.v_lt, N.v_le, N.v_gt, N.v_ge, N.v_add, N.v_sub, N.v_iadd, N.v_xor, N.v_int, N.tru_b, N.pd_d, N.data_nil, N.data_cons, N.len_t, N.v_tupT, N.g_name, N.isNone_n, N.isNone_t, N.isNone_i, N.v_isN, N.v_isNn, N.v_eqB, N.v_neB, List.set_cons_succ, List.set_cons_zero, List.getElem?_cons_succ, List.getElem?_cons_zero, Bool.not_true, Bool.not_false, Bool.false_eq_true, Bool.true_eq_false, eq_self, true_implies, false_implies, true_and, and_true, decide_true, decide_false, Int.zero_add, N.R_sl, N.R_it, R_oNone, R_oSome, wipeN, N.R_lst, N.R_mkF, N.R_mkT, N.R_meth, N.v_addT, Ri_rng1, Ri_rng2, Ri_seq, hp, hq, encR]
    simp [okR]
    omega
theorem best_testL (A B : Option Nat) (e : Lo) (s : Sto) {p q : Nat} (hp : e[p]? = some (some (.d (encR A)))) (hq : e[q]? = some (some (.d (encR B)))) : R (tOr (tAnd (tCmp (cIsN false) (eVar p) (eC .none)) (tCmp (cIsN false) (eVar q) (eC .none))) (tAnd (tCmp (cIsN true) (eVar p) (eC .none)) (tAnd (tCmp (cIsN true) (eVar q) (eC .none)) (tCmp cEq (eBin (oAdd false) (eVar q) (eC (.int 1))) (eVar p)))) e s) fun b s' => b = okR A B ∧ s' = s := by
  cases A <;> cases B
  · simp only [Rs_nil, R_call, R_cons, R_nil, R_Var, R_C, R_bin, R_cmp, R_tcmp, R_tOr, R_tAnd, R_tNot, R_tVal, R_tTrue, R_ite, R_eAnd, R_eOr, R_eNot, R_neg, R_tup, R_isi, R_some, Rc_some, N.v_eq, N.v_ne, N.v_lt, N.v_le, N.v_gt, N.v_ge, N.v_add, N.v_sub, N.v_iadd, N.v_xor, N.v_int, N.tru_b, N.pd_d, N.data_nil, N.data_cons, N.len_t, N.v_tupT, N.g_name, N.isNone_n, N.isNone_t, N.isNone_i, N.v_isN, N.v_isNn, N.v_eqB, N.v_neB, List.set_cons_succ, List.set_cons_zero, List.getElem?_cons_succ, List.getElem?_cons_zero, Bool.not_true, Bool.not_false, Bool.false_eq_true, Bool.true_eq_false, eq_self, true_implies, false_implies, true_and, and_true, decide_true, decide_false, Int.zero_add, N.R_sl, N.R_it, R_oNone, R_oSome, wipeN, N.R_lst, N.R_mkF, N.R_mkT, N.R_meth, N.v_addT, Ri_rng1, Ri_rng2, Ri_seq, hp, hq, encR]
    simp [okR]
  · simp only [Rs_nil, R_call, R_cons, R_nil, R_Var, R_C, R_bin, R_cmp, R_tcmp, R_tOr, R_tAnd, R_tNot, R_tVal, R_tTrue, R_ite, R_eAnd, R_eOr, R_eNot, R_neg, R_tup, R_isi, R_some, Rc_some, N.v_eq, N.v_ne, N.v_lt, N.v_le, N.v_gt, N.v_ge, N.v_add, N.v_sub, N.v_iadd, N.v_xor, N.v_int, N.tru_b, N.pd_d, N.data_nil, N.data_cons, N.len_t, N.v_tupT, N.g_name, N.isNone_n, N.isNone_t, N.isNone_i, N.v_isN, N.v_isNn, N.v_eqB, N.v_neB, List.set_cons_succ, List.set_cons_zero, List.getElem?_cons_succ, List.getElem?_cons_zero, Bool.not_true, Bool.not_false, Bool.false_eq_true, Bool.true_eq_false, eq_self, true_implies, false_implies, true_and, and_true, decide_true, decide_false, Int.zero_add, N.R_sl, N.R_it, R_oNone, R_oSome, wipeN, N.R_lst, N.R_mkF, N.R_mkT, N.R_meth, N.v_addT, Ri_rng1, Ri_rng2, Ri_seq, hp, hq, encR]
    simp [okR]
  · simp only [Rs_nil, R_call, R_cons, R_nil, R_Var, R_C, R_bin, R_cmp, R_tcmp, R_tOr, R_tAnd, R_tNot, R_tVal, R_tTrue, R_ite, R_eAnd, R_eOr, R_eNot, R_neg, R_tup, R_isi, R_some, Rc_some, N.v_eq, N.v_ne, N.v_lt, N.v_le, N.v_gt, N.v_ge, N.v_add, N.v_sub, N.v_iadd, N.v_xor, N.v_int, N.tru_b, N.pd_d, N.data_nil, N.data_cons, N.len_t, N.v_tupT, N.g_name, N.isNone_n, N.isNone_t, N.isNone_i, N.v_isN, N.v_isNn, N.v_eqB, N.v_neB, List.set_cons_succ, List.set_cons_zero, List.getElem?_cons_succ, List.getElem?_cons_zero, Bool.not_true, Bool.not_false, Bool.false_eq_true, Bool.true_eq_false, eq_self, true_implies, false_implies, true_and, and_true, decide_true, decide_false, Int.zero_add, N.R_sl, N.R_it, R_oNone, R_oSome, wipeN, N.R_lst, N.R_mkF, N.R_mkT, N.R_meth, N.v_addT, Ri_rng1, Ri_rng2, Ri_seq, hp, hq, encR]
    simp [okR]
  · rename_i x y
    simp only [Rs_nil, R_call, R_cons, R_nil, R_Var, R_C, R_bin, R_cmp, R_tcmp, R_tOr, R_tAnd, R_tNot, R_tVal, R_tTrue, R_ite, R_eAnd, R_eOr, R_eNot, R_neg, R_tup, R_isi, R_some, Rc_some, N.v_eq, N.v_ne, N.v_lt, N.v_le, N.v_gt, N.v_ge, N.v_add, N.v_sub, N.v_iadd, N.v_xor, N.v_int, N.tru_b, N.pd_d, N.data_nil, N.data_cons, N.len_t, N.v_tupT, N.g_name, N.isNone_n, N.isNone_t, N.isNone_i, N.v_isN, N.v_isNn, N.v_eqB, N.v_neB, List.set_cons_succ, List.set_cons_zero, List.getElem?_cons_succ, List.getElem?_cons_zero, Bool.not_true, Bool.not_false, Bool.false_eq_true, Bool.true_eq_false, eq_self, true_implies, false_implies, true_and, and_true, decide_true, decide_false, Int.zero_add, N.R_sl, N.R_it, R_oNone, R_oSome, wipeN, N.R_lst, N.R_mkF, N.R_mkT, N.R_meth, N.v_addT, Ri_rng1, Ri_rng2, Ri_seq, hp, hq, encR]
    simp [okR]
    omega
theorem find_at {α : Type} {l : List α} {p : α → Bool} {k : Nat} {x : α} (hk : l[k]? = some x) (hx : p x = true) (hb : ∀ y ∈ l.take k, p y = false) : l.find? p = some x := by
  rw [List.find?_eq_some_iff_append]
  refine ⟨hx, l.take k, l.drop (k + 1), ?_, fun y hy => by rw [hb y hy]; rfl⟩
  obtain ⟨h1, h2⟩ := List.getElem?_eq_some_iff.mp hk
  rw [← h2, ← List.drop_eq_getElem_cons h1, List.take_append_drop]
theorem find_no {α : Type} {l : List α} {p : α → Bool} (hb : ∀ y ∈ l, p y = false) : l.find? p = none := by
  rw [List.find?_eq_none]
  exact fun y hy => by rw [hb y hy]; exact Bool.false_ne_true
section
variable {n : Nat} {a b : List (List Nat)}
theorem best_by_ok (h : Bd n a b) (f : Bool → Nat → Option Nat) (w : Bool) {i : Nat} (hi : i < n) (s : Sto) : m_best_by s [.d (rksD n f), .d (bdD a b), .d (.int (i : Nat)), .d (.str (whoS w))] = some (.d (encR (bestB (mvB a b) f w i)), s) := by
  have ok := h.ok
  apply R.eq
  unfold m_best_by b_best_by
  rw [R_fn]
  refine ⟨rfl, ?_⟩
  simp only [List.map_cons, List.map_nil, List.cons_append, List.nil_append, List.length_cons, List.length_nil, Nat.reduceSub, Nat.reduceAdd, List.replicate_succ, List.replicate_zero]
  rw [Rs_seq, Rs_set]
  simp only [Rs_nil, R_call, R_cons, R_nil, R_Var, R_C, R_bin, R_cmp, R_tcmp, R_tOr, R_tAnd, R_tNot, R_tVal, R_tTrue, R_ite, R_eAnd, R_eOr, R_eNot, R_neg, R_tup, R_isi, R_some, Rc_some, N.v_eq, N.v_ne, N.v_lt, N.v_le, N.v_gt, N.v_ge, N.v_add, N.v_sub, N.v_iadd, N.v_xor, N.v_int, N.tru_b, N.pd_d, N.data_nil, N.data_cons, N.len_t, N.v_tupT, N.g_name, N.isNone_n, N.isNone_t, N.isNone_i, N.v_isN, N.v_isNn, N.v_eqB, N.v_neB, List.set_cons_succ, List.set_cons_zero, List.getElem?_cons_succ, List.getElem?_cons_zero, Bool.not_true, Bool.not_false, Bool.false_eq_true, Bool.true_eq_false, eq_self, true_implies, false_implies, true_and, and_true, decide_true, decide_false, Int.zero_add, N.R_sl, N.R_it, R_oNone, R_oSome, wipeN, N.R_lst, N.R_mkF, N.R_mkT, N.R_meth, N.v_addT, Ri_rng1, Ri_rng2, Ri_seq, rank_of_ok f w hi]
  rw [thn_nx, Rs_seq]
  refine Rs_for (mvB a b w i) (fun j => .d (.int (j : Nat))) (fun k e s' => s' = s ∧ (∀ y ∈ (mvB a b w i).take k, okR (f w i) (f (!w) y) = false) ∧ e = [some (.d (rksD n f)), some (.d (bdD a b)), some (.d (.int (i : Nat))), some (.d (.str (whoS w))), some (.d (encR (f w i))), none, none]) ?_ (fun k j e s' hk hq => ?_) (fun e s' hq => ?_)
  · rw [Ri_seq]
    simp only [Rs_nil, R_call, R_cons, R_nil, R_Var, R_C, R_bin, R_cmp, R_tcmp, R_tOr, R_tAnd, R_tNot, R_tVal, R_tTrue, R_ite, R_eAnd, R_eOr, R_eNot, R_neg, R_tup, R_isi, R_some, Rc_some, N.v_eq, N.v_ne, N.v_lt, N.v_le, N.v_gt, N.v_ge, N.v_add, N.v_sub, N.v_iadd, N.v_xor, N.v_int, N.tru_b, N.pd_d, N.data_nil, N.data_cons, N.len_t, N.v_tupT, N.g_name, N.isNone_n, N.isNone_t, N.isNone_i, N.v_isN, N.v_isNn, N.v_eqB, N.v_neB, List.set_cons_succ, List.set_cons_zero, List.getElem?_cons_succ, List.getElem?_cons_zero, Bool.not_true, Bool.not_false, Bool.false_eq_true, Bool.true_eq_false, eq_self, true_implies, false_implies, true_and, and_true, decide_true, decide_false, Int.zero_add, N.R_sl, N.R_it, R_oNone, R_oSome, wipeN, N.R_lst, N.R_mkF, N.R_mkT, N.R_meth, N.v_addT, Ri_rng1, Ri_rng2, Ri_seq, mof_ok, it_side (if w then a else b) (show i < (if w then a else b).length by rw [h.side w]; exact hi)]
    rw [mv_eq]
    simp [tup, nt, Function.comp_def]
  · obtain ⟨rfl, hb, rfl⟩ := hq
    have hjm := List.mem_of_getElem? hk
    have hjn := ok.lt w i hi j hjm
    rw [g_name, Rc_some, Rs_seq, Rs_set]
    simp only [Rs_nil, R_call, R_cons, R_nil, R_Var, R_C, R_bin, R_cmp, R_tcmp, R_tOr, R_tAnd, R_tNot, R_tVal, R_tTrue, R_ite, R_eAnd, R_eOr, R_eNot, R_neg, R_tup, R_isi, R_some, Rc_some, N.v_eq, N.v_ne, N.v_lt, N.v_le, N.v_gt, N.v_ge, N.v_add, N.v_sub, N.v_iadd, N.v_xor, N.v_int, N.tru_b, N.pd_d, N.data_nil, N.data_cons, N.len_t, N.v_tupT, N.g_name, N.isNone_n, N.isNone_t, N.isNone_i, N.v_isN, N.v_isNn, N.v_eqB, N.v_neB, List.set_cons_succ, List.set_cons_zero, List.getElem?_cons_succ, List.getElem?_cons_zero, Bool.not_true, Bool.not_false, Bool.false_eq_true, Bool.true_eq_false, eq_self, true_implies, false_implies, true_and, and_true, decide_true, decide_false, Int.zero_add, N.R_sl, N.R_it, R_oNone, R_oSome, wipeN, N.R_lst, N.R_mkF, N.R_mkT, N.R_meth, N.v_addT, Ri_rng1, Ri_rng2, Ri_seq, other_ok, rank_of_ok f (!w) hjn]
    rw [thn_nx, Rs_seq, Rs_if]
    refine (best_test (f w i) (f (!w) j) _ _ (p := 4) (q := 6) rfl rfl).imp fun t s' ⟨ht, hs⟩ => ?_
    subst ht hs
    refine ⟨fun ht => ?_, fun ht => ?_⟩
    · rw [Rs_seq, Rs_ret]
      simp only [Rs_nil, R_call, R_cons, R_nil, R_Var, R_C, R_bin, R_cmp, R_tcmp, R_tOr, R_tAnd, R_tNot, R_tVal, R_tTrue, R_ite, R_eAnd, R_eOr, R_eNot, R_neg, R_tup, R_isi, R_some, Rc_some, N.v_eq, N.v_ne, N.v_lt, N.v_le, N.v_gt, N.v_ge, N.v_add, N.v_sub, N.v_iadd, N.v_xor, N.v_int, N.tru_b, N.pd_d, N.data_nil, N.data_cons, N.len_t, N.v_tupT, N.g_name, N.isNone_n, N.isNone_t, N.isNone_i, N.v_isN, N.v_isNn, N.v_eqB, N.v_neB, List.set_cons_succ, List.set_cons_zero, List.getElem?_cons_succ, List.getElem?_cons_zero, Bool.not_true, Bool.not_false, Bool.false_eq_true, Bool.true_eq_false, eq_self, true_implies, false_implies, true_and, and_true, decide_true, decide_false, Int.zero_add, N.R_sl, N.R_it, R_oNone, R_oSome, wipeN, N.R_lst, N.R_mkF, N.R_mkT, N.R_meth, N.v_addT, Ri_rng1, Ri_rng2, Ri_seq]
      rw [thn_rt, thn_rt, aft_rt, thn_rt]
      have := find_at (p := fun j => okR (f w i) (f (!w) j)) hk ht hb
      rw [show bestB (mvB a b) f w i = some j from this]
      exact R_retd.mpr ⟨rfl, by simp⟩
    · try rw [Rs_nil]
      rw [thn_nx, Rs_nil, aft_nx, trimE_len rfl]
      refine ⟨rfl, fun y hy => ?_, by simp [wipeN]⟩
      rw [List.take_add_one, hk] at hy
      rcases List.mem_append.mp hy with hy | hy
      · exact hb y hy
      · simp at hy
        rw [hy]
        exact ht
  · obtain ⟨rfl, hb, rfl⟩ := hq
    rw [List.take_length] at hb
    rw [thn_nx, Rs_seq, Rs_ret]
    simp only [Rs_nil, R_call, R_cons, R_nil, R_Var, R_C, R_bin, R_cmp, R_tcmp, R_tOr, R_tAnd, R_tNot, R_tVal, R_tTrue, R_ite, R_eAnd, R_eOr, R_eNot, R_neg, R_tup, R_isi, R_some, Rc_some, N.v_eq, N.v_ne, N.v_lt, N.v_le, N.v_gt, N.v_ge, N.v_add, N.v_sub, N.v_iadd, N.v_xor, N.v_int, N.tru_b, N.pd_d, N.data_nil, N.data_cons, N.len_t, N.v_tupT, N.g_name, N.isNone_n, N.isNone_t, N.isNone_i, N.v_isN, N.v_isNn, N.v_eqB, N.v_neB, List.set_cons_succ, List.set_cons_zero, List.getElem?_cons_succ, List.getElem?_cons_zero, Bool.not_true, Bool.not_false, Bool.false_eq_true, Bool.true_eq_false, eq_self, true_implies, false_implies, true_and, and_true, decide_true, decide_false, Int.zero_add, N.R_sl, N.R_it, R_oNone, R_oSome, wipeN, N.R_lst, N.R_mkF, N.R_mkT, N.R_meth, N.v_addT, Ri_rng1, Ri_rng2, Ri_seq]
    rw [thn_rt]
    have := find_no (p := fun j => okR (f w i) (f (!w) j)) hb
    rw [show bestB (mvB a b) f w i = none from this]
    exact R_retd.mpr ⟨rfl, by simp⟩
theorem best_move_ok (h : Bd n a b) (w : Bool) {i : Nat} (hi : i < n) (s : Sto) : m_best_move s [.d (bdD a b), .d (.int (i : Nat)), .d (.str (whoS w))] = some (.d (encR (bestB (mvB a b) (rkB n (mvB a b)) w i)), s) := by
  apply R.eq
  unfold m_best_move b_best_move
  rw [R_fn]
  refine ⟨rfl, ?_⟩
  simp only [List.map_cons, List.map_nil, List.cons_append, List.nil_append, List.length_cons, List.length_nil, Nat.reduceSub, Nat.reduceAdd, List.replicate_succ, List.replicate_zero]
  rw [Rs_seq, Rs_ret]
  simp only [Rs_nil, R_call, R_cons, R_nil, R_Var, R_C, R_bin, R_cmp, R_tcmp, R_tOr, R_tAnd, R_tNot, R_tVal, R_tTrue, R_ite, R_eAnd, R_eOr, R_eNot, R_neg, R_tup, R_isi, R_some, Rc_some, N.v_eq, N.v_ne, N.v_lt, N.v_le, N.v_gt, N.v_ge, N.v_add, N.v_sub, N.v_iadd, N.v_xor, N.v_int, N.tru_b, N.pd_d, N.data_nil, N.data_cons, N.len_t, N.v_tupT, N.g_name, N.isNone_n, N.isNone_t, N.isNone_i, N.v_isN, N.v_isNn, N.v_eqB, N.v_neB, List.set_cons_succ, List.set_cons_zero, List.getElem?_cons_succ, List.getElem?_cons_zero, Bool.not_true, Bool.not_false, Bool.false_eq_true, Bool.true_eq_false, eq_self, true_implies, false_implies, true_and, and_true, decide_true, decide_false, Int.zero_add, N.R_sl, N.R_it, R_oNone, R_oSome, wipeN, N.R_lst, N.R_mkF, N.R_mkT, N.R_meth, N.v_addT, Ri_rng1, Ri_rng2, Ri_seq, ranks_ok h, best_by_ok h _ w hi]
  rw [thn_rt]
  exact R_retd.mpr ⟨rfl, by simp⟩
def winS (o : Option Nat) (w : Bool) : Str := match o with
  | none => "drawn"
  | some t => if t % 2 = 1 then whoS w else whoS (!w)
theorem win_ok (h : Bd n a b) (w : Bool) {i : Nat} (hi : i < n) (s : Sto) : m_winner s [.d (bdD a b), .d (.int (i : Nat)), .d (.str (whoS w))] = some (.d (.str (winS (rkB n (mvB a b) w i) w)), s) := by
  apply R.eq
  unfold m_winner b_winner
  rw [R_fn]
  refine ⟨rfl, ?_⟩
  simp only [List.map_cons, List.map_nil, List.cons_append, List.nil_append, List.length_cons, List.length_nil, Nat.reduceSub, Nat.reduceAdd, List.replicate_succ, List.replicate_zero]
  rw [Rs_seq, Rs_set]
  simp only [Rs_nil, R_call, R_cons, R_nil, R_Var, R_C, R_bin, R_cmp, R_tcmp, R_tOr, R_tAnd, R_tNot, R_tVal, R_tTrue, R_ite, R_eAnd, R_eOr, R_eNot, R_neg, R_tup, R_isi, R_some, Rc_some, N.v_eq, N.v_ne, N.v_lt, N.v_le, N.v_gt, N.v_ge, N.v_add, N.v_sub, N.v_iadd, N.v_xor, N.v_int, N.tru_b, N.pd_d, N.data_nil, N.data_cons, N.len_t, N.v_tupT, N.g_name, N.isNone_n, N.isNone_t, N.isNone_i, N.v_isN, N.v_isNn, N.v_eqB, N.v_neB, List.set_cons_succ, List.set_cons_zero, List.getElem?_cons_succ, List.getElem?_cons_zero, Bool.not_true, Bool.not_false, Bool.false_eq_true, Bool.true_eq_false, eq_self, true_implies, false_implies, true_and, and_true, decide_true, decide_false, Int.zero_add, N.R_sl, N.R_it, R_oNone, R_oSome, wipeN, N.R_lst, N.R_mkF, N.R_mkT, N.R_meth, N.v_addT, Ri_rng1, Ri_rng2, Ri_seq, ranks_ok h, rank_of_ok _ w hi]
  rw [thn_nx, Rs_seq, Rs_if]
  cases e : rkB n (mvB a b) w i with
  | none =>
    simp only [Rs_nil, R_call, R_cons, R_nil, R_Var, R_C, R_bin, R_cmp, R_tcmp, R_tOr, R_tAnd, R_tNot, R_tVal, R_tTrue, R_ite, R_eAnd, R_eOr, R_eNot, R_neg, R_tup, R_isi, R_some, Rc_some, N.v_eq, N.v_ne, N.v_lt, N.v_le, N.v_gt, N.v_ge, N.v_add, N.v_sub, N.v_iadd, N.v_xor, N.v_int, N.tru_b, N.pd_d, N.data_nil, N.data_cons, N.len_t, N.v_tupT, N.g_name, N.isNone_n, N.isNone_t, N.isNone_i, N.v_isN, N.v_isNn, N.v_eqB, N.v_neB, List.set_cons_succ, List.set_cons_zero, List.getElem?_cons_succ, List.getElem?_cons_zero, Bool.not_true, Bool.not_false, Bool.false_eq_true, Bool.true_eq_false, eq_self, true_implies, false_implies, true_and, and_true, decide_true, decide_false, Int.zero_add, N.R_sl, N.R_it, R_oNone, R_oSome, wipeN, N.R_lst, N.R_mkF, N.R_mkT, N.R_meth, N.v_addT, Ri_rng1, Ri_rng2, Ri_seq, encR]
    rw [Rs_seq, Rs_ret]
    simp only [Rs_nil, R_call, R_cons, R_nil, R_Var, R_C, R_bin, R_cmp, R_tcmp, R_tOr, R_tAnd, R_tNot, R_tVal, R_tTrue, R_ite, R_eAnd, R_eOr, R_eNot, R_neg, R_tup, R_isi, R_some, Rc_some, N.v_eq, N.v_ne, N.v_lt, N.v_le, N.v_gt, N.v_ge, N.v_add, N.v_sub, N.v_iadd, N.v_xor, N.v_int, N.tru_b, N.pd_d, N.data_nil, N.data_cons, N.len_t, N.v_tupT, N.g_name, N.isNone_n, N.isNone_t, N.isNone_i, N.v_isN, N.v_isNn, N.v_eqB, N.v_neB, List.set_cons_succ, List.set_cons_zero, List.getElem?_cons_succ, List.getElem?_cons_zero, Bool.not_true, Bool.not_false, Bool.false_eq_true, Bool.true_eq_false, eq_self, true_implies, false_implies, true_and, and_true, decide_true, decide_false, Int.zero_add, N.R_sl, N.R_it, R_oNone, R_oSome, wipeN, N.R_lst, N.R_mkF, N.R_mkT, N.R_meth, N.v_addT, Ri_rng1, Ri_rng2, Ri_seq]
    rw [thn_rt, thn_rt]
    exact R_retd.mpr ⟨rfl, by simp⟩
  | some t =>
    simp only [Rs_nil, R_call, R_cons, R_nil, R_Var, R_C, R_bin, R_cmp, R_tcmp, R_tOr, R_tAnd, R_tNot, R_tVal, R_tTrue, R_ite, R_eAnd, R_eOr, R_eNot, R_neg, R_tup, R_isi, R_some, Rc_some, N.v_eq, N.v_ne, N.v_lt, N.v_le, N.v_gt, N.v_ge, N.v_add, N.v_sub, N.v_iadd, N.v_xor, N.v_int, N.tru_b, N.pd_d, N.data_nil, N.data_cons, N.len_t, N.v_tupT, N.g_name, N.isNone_n, N.isNone_t, N.isNone_i, N.v_isN, N.v_isNn, N.v_eqB, N.v_neB, List.set_cons_succ, List.set_cons_zero, List.getElem?_cons_succ, List.getElem?_cons_zero, Bool.not_true, Bool.not_false, Bool.false_eq_true, Bool.true_eq_false, eq_self, true_implies, false_implies, true_and, and_true, decide_true, decide_false, Int.zero_add, N.R_sl, N.R_it, R_oNone, R_oSome, wipeN, N.R_lst, N.R_mkF, N.R_mkT, N.R_meth, N.v_addT, Ri_rng1, Ri_rng2, Ri_seq, encR]
    try rw [Rs_nil]
    rw [thn_nx, Rs_seq, Rs_ret]
    simp only [Rs_nil, R_call, R_cons, R_nil, R_Var, R_C, R_bin, R_cmp, R_tcmp, R_tOr, R_tAnd, R_tNot, R_tVal, R_tTrue, R_ite, R_eAnd, R_eOr, R_eNot, R_neg, R_tup, R_isi, R_some, Rc_some, N.v_eq, N.v_ne, N.v_lt, N.v_le, N.v_gt, N.v_ge, N.v_add, N.v_sub, N.v_iadd, N.v_xor, N.v_int, N.tru_b, N.pd_d, N.data_nil, N.data_cons, N.len_t, N.v_tupT, N.g_name, N.isNone_n, N.isNone_t, N.isNone_i, N.v_isN, N.v_isNn, N.v_eqB, N.v_neB, List.set_cons_succ, List.set_cons_zero, List.getElem?_cons_succ, List.getElem?_cons_zero, Bool.not_true, Bool.not_false, Bool.false_eq_true, Bool.true_eq_false, eq_self, true_implies, false_implies, true_and, and_true, decide_true, decide_false, Int.zero_add, N.R_sl, N.R_it, R_oNone, R_oSome, wipeN, N.R_lst, N.R_mkF, N.R_mkT, N.R_meth, N.v_addT, Ri_rng1, Ri_rng2, Ri_seq]
    rw [v_mod (show (0 : Int) < 2 by decide)]
    simp only [Rs_nil, R_call, R_cons, R_nil, R_Var, R_C, R_bin, R_cmp, R_tcmp, R_tOr, R_tAnd, R_tNot, R_tVal, R_tTrue, R_ite, R_eAnd, R_eOr, R_eNot, R_neg, R_tup, R_isi, R_some, Rc_some, N.v_eq, N.v_ne, N.v_lt, N.v_le, N.v_gt, N.v_ge, N.v_add, N.v_sub, N.v_iadd, N.v_xor, N.v_int, N.tru_b, N.pd_d, N.data_nil, N.data_cons, N.len_t, N.v_tupT, N.g_name, N.isNone_n, N.isNone_t, N.isNone_i, N.v_isN, N.v_isNn, N.v_eqB, N.v_neB, List.set_cons_succ, List.set_cons_zero, List.getElem?_cons_succ, List.getElem?_cons_zero, Bool.not_true, Bool.not_false, Bool.false_eq_true, Bool.true_eq_false, eq_self, true_implies, false_implies, true_and, and_true, decide_true, decide_false, Int.zero_add, N.R_sl, N.R_it, R_oNone, R_oSome, wipeN, N.R_lst, N.R_mkF, N.R_mkT, N.R_meth, N.v_addT, Ri_rng1, Ri_rng2, Ri_seq, other_ok]
    refine ⟨fun h1 => ?_, fun h1 => ?_⟩
    · have h1 : t % 2 = 1 := by have := of_decide_eq_true h1; omega
      rw [thn_rt]
      refine R_retd.mpr ⟨?_, by simp⟩
      unfold winS
      simp only [h1, if_true]
    · have h1 : ¬ t % 2 = 1 := by have := of_decide_eq_false h1; omega
      rw [thn_rt]
      refine R_retd.mpr ⟨?_, by simp⟩
      unfold winS
      simp only [h1, if_false]
theorem lineB_succ (best : Bool → Nat → Option Nat) (k : Nat) (w : Bool) (i : Nat) : lineB best (k + 1) w i = match best w i with
    | none => [i]
    | some j => i :: lineB best k (!w) j := rfl
theorem it_lastR {s : Sto} {j : Nat} {P : List Nat} {i : Nat} (h : s[j]? = some (.lst ((nt (P ++ [i])).map .d))) : itF s (.r j) (.d (.int (-1))) = some (.d (.int (i : Nat))) := by
  refine itF_l h ?_
  unfold atI ixN
  have hl : ((nt (P ++ [i])).map D.d).length = P.length + 1 := by simp [nt]
  rw [if_neg (by omega), if_pos (by omega)]
  have e : (-1 + ((((nt (P ++ [i])).map D.d).length : Nat) : Int)).toNat = P.length := by omega
  rw [e]
  simp [nt]
theorem line_ok (h : Bd n a b) (w0 : Bool) {i0 : Nat} (hi0 : i0 < n) {limit : Nat} (hl : limit ≤ 100) (s : Sto) : m_line_of s [.d (bdD a b), .d (.int (i0 : Nat)), .d (.str (whoS w0)), .d (.int (limit : Nat))] = some (.d (tup (lineB (bestB (mvB a b) (rkB n (mvB a b))) limit w0 i0)), s) := by
  have ok := h.ok
  apply R.eq
  unfold m_line_of b_line_of
  rw [R_fn]
  refine ⟨rfl, ?_⟩
  simp only [List.map_cons, List.map_nil, List.cons_append, List.nil_append, List.length_cons, List.length_nil, Nat.reduceSub, Nat.reduceAdd, List.replicate_succ, List.replicate_zero]
  rw [Rs_seq, Rs_par]
  simp only [Rs_nil, R_call, R_cons, R_nil, R_Var, R_C, R_bin, R_cmp, R_tcmp, R_tOr, R_tAnd, R_tNot, R_tVal, R_tTrue, R_ite, R_eAnd, R_eOr, R_eNot, R_neg, R_tup, R_isi, R_some, Rc_some, N.v_eq, N.v_ne, N.v_lt, N.v_le, N.v_gt, N.v_ge, N.v_add, N.v_sub, N.v_iadd, N.v_xor, N.v_int, N.tru_b, N.pd_d, N.data_nil, N.data_cons, N.len_t, N.v_tupT, N.g_name, N.isNone_n, N.isNone_t, N.isNone_i, N.v_isN, N.v_isNn, N.v_eqB, N.v_neB, List.set_cons_succ, List.set_cons_zero, List.getElem?_cons_succ, List.getElem?_cons_zero, Bool.not_true, Bool.not_false, Bool.false_eq_true, Bool.true_eq_false, eq_self, true_implies, false_implies, true_and, and_true, decide_true, decide_false, Int.zero_add, N.R_sl, N.R_it, R_oNone, R_oSome, wipeN, N.R_lst, N.R_mkF, N.R_mkT, N.R_meth, N.v_addT, Ri_rng1, Ri_rng2, Ri_seq, ranks_ok h]
  refine ⟨by simp [lim], by simp, ?_⟩
  simp only [List.zip_cons_cons, List.zip_nil_right, List.foldl_cons, List.foldl_nil, List.set_cons_succ, List.set_cons_zero]
  generalize hres : lineB (bestB (mvB a b) (rkB n (mvB a b))) limit w0 i0 = res
  rw [thn_nx, Rs_seq]
  refine Rs_while (fun m e s' => ∃ (P : List Nat) (i : Nat) (w : Bool), i < n ∧ P.length + m = limit ∧ P ++ lineB (bestB (mvB a b) (rkB n (mvB a b))) m w i = res ∧ s' = s ++ [.lst ((nt (P ++ [i])).map .d)] ∧ e = [some (.d (bdD a b)), some (.d (.int (i0 : Nat))), some (.d (.str (whoS w))), some (.d (.int (limit : Nat))), some (.r s.length), some (.d (rksD n (rkB n (mvB a b)))), none]) (m := limit) (Nat.lt_of_le_of_lt hl (by decide)) ⟨[], i0, w0, hi0, by simp, by simpa using hres, by simp [nt], rfl⟩ (fun m e s' hi => ?_)
  obtain ⟨P, i, w, hi, hm, hr, rfl, rfl⟩ := hi
  have g0 : (s ++ [Cell.lst ((nt (P ++ [i])).map D.d)])[s.length]? = some (.lst ((nt (P ++ [i])).map D.d)) := by simp
  have hlen : bLen (s ++ [Cell.lst ((nt (P ++ [i])).map D.d)]) [.r s.length] = some (.d (.int (P.length + 1 : Nat)), s ++ [Cell.lst ((nt (P ++ [i])).map D.d)]) := by
    have := len_r g0
    rw [this]
    simp [nt]
  have ret : res = P ++ [i] → ∀ {o6 : Option D}, Rs (sSeq (sRet (eCall bTuple (aCons (eVar 4) aNil))) sNil [some (.d (bdD a b)), some (.d (.int (i0 : Nat))), some (.d (.str (whoS w))), some (.d (.int (limit : Nat))), some (.r s.length), some (.d (rksD n (rkB n (mvB a b)))), o6] (s ++ [Cell.lst ((nt (P ++ [i])).map D.d)])) (fun fl e' s' => ∃ d, fl = .rt d ∧ d = .d (tup res) ∧ s' = s ++ [Cell.lst ((nt (P ++ [i])).map D.d)]) := fun h1 o6 => by
    rw [Rs_seq, Rs_ret]
    simp only [Rs_nil, R_call, R_cons, R_nil, R_Var, R_C, R_bin, R_cmp, R_tcmp, R_tOr, R_tAnd, R_tNot, R_tVal, R_tTrue, R_ite, R_eAnd, R_eOr, R_eNot, R_neg, R_tup, R_isi, R_some, Rc_some, N.v_eq, N.v_ne, N.v_lt, N.v_le, N.v_gt, N.v_ge, N.v_add, N.v_sub, N.v_iadd, N.v_xor, N.v_int, N.tru_b, N.pd_d, N.data_nil, N.data_cons, N.len_t, N.v_tupT, N.g_name, N.isNone_n, N.isNone_t, N.isNone_i, N.v_isN, N.v_isNn, N.v_eqB, N.v_neB, List.set_cons_succ, List.set_cons_zero, List.getElem?_cons_succ, List.getElem?_cons_zero, Bool.not_true, Bool.not_false, Bool.false_eq_true, Bool.true_eq_false, eq_self, true_implies, false_implies, true_and, and_true, decide_true, decide_false, Int.zero_add, N.R_sl, N.R_it, R_oNone, R_oSome, wipeN, N.R_lst, N.R_mkF, N.R_mkT, N.R_meth, N.v_addT, Ri_rng1, Ri_rng2, Ri_seq]
    rw [v_tupR g0, R_some, thn_rt]
    exact ⟨_, rfl, by rw [h1]; rfl, rfl⟩
  simp only [Rs_nil, R_call, R_cons, R_nil, R_Var, R_C, R_bin, R_cmp, R_tcmp, R_tOr, R_tAnd, R_tNot, R_tVal, R_tTrue, R_ite, R_eAnd, R_eOr, R_eNot, R_neg, R_tup, R_isi, R_some, Rc_some, N.v_eq, N.v_ne, N.v_lt, N.v_le, N.v_gt, N.v_ge, N.v_add, N.v_sub, N.v_iadd, N.v_xor, N.v_int, N.tru_b, N.pd_d, N.data_nil, N.data_cons, N.len_t, N.v_tupT, N.g_name, N.isNone_n, N.isNone_t, N.isNone_i, N.v_isN, N.v_isNn, N.v_eqB, N.v_neB, List.set_cons_succ, List.set_cons_zero, List.getElem?_cons_succ, List.getElem?_cons_zero, Bool.not_true, Bool.not_false, Bool.false_eq_true, Bool.true_eq_false, eq_self, true_implies, false_implies, true_and, and_true, decide_true, decide_false, Int.zero_add, N.R_sl, N.R_it, R_oNone, R_oSome, wipeN, N.R_lst, N.R_mkF, N.R_mkT, N.R_meth, N.v_addT, Ri_rng1, Ri_rng2, Ri_seq, hlen]
  refine ⟨fun h1 => ?_, fun h1 => ?_⟩
  · have h1 : m = 0 := by have := of_decide_eq_false h1; omega
    subst h1
    rw [lineB] at hr
    rw [thn_nx]
    refine (ret hr.symm).imp fun fl e' s' ⟨d, h2, h3, h4⟩ => ?_
    subst h2 h3 h4
    exact R_retd.mpr ⟨rfl, by simp⟩
  · have h1 : 1 ≤ m := by have := of_decide_eq_true h1; omega
    obtain ⟨m, rfl⟩ : ∃ k, m = k + 1 := ⟨m - 1, by omega⟩
    rw [lineB_succ] at hr
    rw [Rs_seq, Rs_set]
    simp only [Rs_nil, R_call, R_cons, R_nil, R_Var, R_C, R_bin, R_cmp, R_tcmp, R_tOr, R_tAnd, R_tNot, R_tVal, R_tTrue, R_ite, R_eAnd, R_eOr, R_eNot, R_neg, R_tup, R_isi, R_some, Rc_some, N.v_eq, N.v_ne, N.v_lt, N.v_le, N.v_gt, N.v_ge, N.v_add, N.v_sub, N.v_iadd, N.v_xor, N.v_int, N.tru_b, N.pd_d, N.data_nil, N.data_cons, N.len_t, N.v_tupT, N.g_name, N.isNone_n, N.isNone_t, N.isNone_i, N.v_isN, N.v_isNn, N.v_eqB, N.v_neB, List.set_cons_succ, List.set_cons_zero, List.getElem?_cons_succ, List.getElem?_cons_zero, Bool.not_true, Bool.not_false, Bool.false_eq_true, Bool.true_eq_false, eq_self, true_implies, false_implies, true_and, and_true, decide_true, decide_false, Int.zero_add, N.R_sl, N.R_it, R_oNone, R_oSome, wipeN, N.R_lst, N.R_mkF, N.R_mkT, N.R_meth, N.v_addT, Ri_rng1, Ri_rng2, Ri_seq, it_lastR g0, best_by_ok h _ w hi]
    rw [thn_nx, Rs_seq, Rs_if]
    cases e : bestB (mvB a b) (rkB n (mvB a b)) w i with
    | none =>
      rw [e] at hr
      simp only [Rs_nil, R_call, R_cons, R_nil, R_Var, R_C, R_bin, R_cmp, R_tcmp, R_tOr, R_tAnd, R_tNot, R_tVal, R_tTrue, R_ite, R_eAnd, R_eOr, R_eNot, R_neg, R_tup, R_isi, R_some, Rc_some, N.v_eq, N.v_ne, N.v_lt, N.v_le, N.v_gt, N.v_ge, N.v_add, N.v_sub, N.v_iadd, N.v_xor, N.v_int, N.tru_b, N.pd_d, N.data_nil, N.data_cons, N.len_t, N.v_tupT, N.g_name, N.isNone_n, N.isNone_t, N.isNone_i, N.v_isN, N.v_isNn, N.v_eqB, N.v_neB, List.set_cons_succ, List.set_cons_zero, List.getElem?_cons_succ, List.getElem?_cons_zero, Bool.not_true, Bool.not_false, Bool.false_eq_true, Bool.true_eq_false, eq_self, true_implies, false_implies, true_and, and_true, decide_true, decide_false, Int.zero_add, N.R_sl, N.R_it, R_oNone, R_oSome, wipeN, N.R_lst, N.R_mkF, N.R_mkT, N.R_meth, N.v_addT, Ri_rng1, Ri_rng2, Ri_seq, encR]
      rw [Rs_seq, Rs_bk, thn_bk]
      rw [thn_bk, aft_bk, thn_nx]
      refine (ret hr.symm).imp fun fl e' s' ⟨d, h2, h3, h4⟩ => ?_
      subst h2 h3 h4
      exact R_retd.mpr ⟨rfl, by simp⟩
    | some j =>
      rw [e] at hr
      obtain ⟨hjn, _⟩ := best_lt ok hi e
      simp only [Rs_nil, R_call, R_cons, R_nil, R_Var, R_C, R_bin, R_cmp, R_tcmp, R_tOr, R_tAnd, R_tNot, R_tVal, R_tTrue, R_ite, R_eAnd, R_eOr, R_eNot, R_neg, R_tup, R_isi, R_some, Rc_some, N.v_eq, N.v_ne, N.v_lt, N.v_le, N.v_gt, N.v_ge, N.v_add, N.v_sub, N.v_iadd, N.v_xor, N.v_int, N.tru_b, N.pd_d, N.data_nil, N.data_cons, N.len_t, N.v_tupT, N.g_name, N.isNone_n, N.isNone_t, N.isNone_i, N.v_isN, N.v_isNn, N.v_eqB, N.v_neB, List.set_cons_succ, List.set_cons_zero, List.getElem?_cons_succ, List.getElem?_cons_zero, Bool.not_true, Bool.not_false, Bool.false_eq_true, Bool.true_eq_false, eq_self, true_implies, false_implies, true_and, and_true, decide_true, decide_false, Int.zero_add, N.R_sl, N.R_it, R_oNone, R_oSome, wipeN, N.R_lst, N.R_mkF, N.R_mkT, N.R_meth, N.v_addT, Ri_rng1, Ri_rng2, Ri_seq, encR]
      try rw [Rs_nil]
      rw [thn_nx, Rs_seq, Rs_expr]
      simp only [Rs_nil, R_call, R_cons, R_nil, R_Var, R_C, R_bin, R_cmp, R_tcmp, R_tOr, R_tAnd, R_tNot, R_tVal, R_tTrue, R_ite, R_eAnd, R_eOr, R_eNot, R_neg, R_tup, R_isi, R_some, Rc_some, N.v_eq, N.v_ne, N.v_lt, N.v_le, N.v_gt, N.v_ge, N.v_add, N.v_sub, N.v_iadd, N.v_xor, N.v_int, N.tru_b, N.pd_d, N.data_nil, N.data_cons, N.len_t, N.v_tupT, N.g_name, N.isNone_n, N.isNone_t, N.isNone_i, N.v_isN, N.v_isNn, N.v_eqB, N.v_neB, List.set_cons_succ, List.set_cons_zero, List.getElem?_cons_succ, List.getElem?_cons_zero, Bool.not_true, Bool.not_false, Bool.false_eq_true, Bool.true_eq_false, eq_self, true_implies, false_implies, true_and, and_true, decide_true, decide_false, Int.zero_add, N.R_sl, N.R_it, R_oNone, R_oSome, wipeN, N.R_lst, N.R_mkF, N.R_mkT, N.R_meth, N.v_addT, Ri_rng1, Ri_rng2, Ri_seq, g0]
      rw [v_app]
      refine ⟨by simp [nt, lim]; omega, ?_⟩
      rw [set_last, thn_nx, Rs_seq, Rs_set]
      simp only [Rs_nil, R_call, R_cons, R_nil, R_Var, R_C, R_bin, R_cmp, R_tcmp, R_tOr, R_tAnd, R_tNot, R_tVal, R_tTrue, R_ite, R_eAnd, R_eOr, R_eNot, R_neg, R_tup, R_isi, R_some, Rc_some, N.v_eq, N.v_ne, N.v_lt, N.v_le, N.v_gt, N.v_ge, N.v_add, N.v_sub, N.v_iadd, N.v_xor, N.v_int, N.tru_b, N.pd_d, N.data_nil, N.data_cons, N.len_t, N.v_tupT, N.g_name, N.isNone_n, N.isNone_t, N.isNone_i, N.v_isN, N.v_isNn, N.v_eqB, N.v_neB, List.set_cons_succ, List.set_cons_zero, List.getElem?_cons_succ, List.getElem?_cons_zero, Bool.not_true, Bool.not_false, Bool.false_eq_true, Bool.true_eq_false, eq_self, true_implies, false_implies, true_and, and_true, decide_true, decide_false, Int.zero_add, N.R_sl, N.R_it, R_oNone, R_oSome, wipeN, N.R_lst, N.R_mkF, N.R_mkT, N.R_meth, N.v_addT, Ri_rng1, Ri_rng2, Ri_seq, other_ok]
      rw [thn_nx, Rs_nil, aft_nx, trimE_len (by simp)]
      refine ⟨m, by omega, P ++ [i], j, !w, hjn, by simp; omega, by rw [List.append_assoc]; exact hr, by simp [nt], by simp [wipeN]⟩
theorem R_lstN {ma : ME} {e : Lo} {s : Sto} {i : Nat} {Q : D → Sto → Prop} (h : R (ma e s) fun d s1 => d = .d (.int (i : Nat)) ∧ s1 = s) (hi : i ≤ 10000) (q : Q (.d (.list (nt (List.range i)))) s) : R (eLstR false ma e s) Q := by
  obtain ⟨_, _, h1, rfl, rfl⟩ := h
  unfold eLstR
  simp only [h1]
  have e2 : rgI 0 (i : Nat) = nt (List.range i) := by
    unfold rgI nt
    refine List.ext_getElem (by simp) fun k h1 h2 => ?_
    simp
  rw [if_pos ⟨by omega, by omega⟩, R_mkF, data_map, Rc_some, e2]
  exact q
theorem tru_nt (l : List Nat) (s : Sto) : truD s (.d (.list (nt l))) = some (!l.isEmpty) := by cases l <;> rfl
theorem rem_sub (n : Nat) (mv : Bool → Nat → List Nat) (k : Nat) : ∀ i ∈ remB n mv k, i < n := by
  induction k with
  | zero => exact fun i hi => List.mem_range.mp hi
  | succ k ih => exact fun i hi => ih i (List.mem_filter.mp hi).1
theorem loopless_ok (h : Bd n a b) (s : Sto) : R (m_is_loopless s [.d (bdD a b)]) fun d s' => s' = s ∧ ∃ t : Bool, d = .d (.bool t) ∧ (t = true → ∀ w i, i < n → rkB n (mvB a b) w i ≠ none) := by
  have ok := h.ok
  have n1 := h.n1
  have n40 := h.n40
  unfold m_is_loopless b_is_loopless
  rw [R_fn]
  refine ⟨rfl, ?_⟩
  simp only [List.map_cons, List.map_nil, List.cons_append, List.nil_append, List.length_cons, List.length_nil, Nat.reduceSub, Nat.reduceAdd, List.replicate_succ, List.replicate_zero]
  rw [Rs_seq, Rs_set]
  simp only [Rs_nil, R_call, R_cons, R_nil, R_Var, R_C, R_bin, R_cmp, R_tcmp, R_tOr, R_tAnd, R_tNot, R_tVal, R_tTrue, R_ite, R_eAnd, R_eOr, R_eNot, R_neg, R_tup, R_isi, R_some, Rc_some, N.v_eq, N.v_ne, N.v_lt, N.v_le, N.v_gt, N.v_ge, N.v_add, N.v_sub, N.v_iadd, N.v_xor, N.v_int, N.tru_b, N.pd_d, N.data_nil, N.data_cons, N.len_t, N.v_tupT, N.g_name, N.isNone_n, N.isNone_t, N.isNone_i, N.v_isN, N.v_isNn, N.v_eqB, N.v_neB, List.set_cons_succ, List.set_cons_zero, List.getElem?_cons_succ, List.getElem?_cons_zero, Bool.not_true, Bool.not_false, Bool.false_eq_true, Bool.true_eq_false, eq_self, true_implies, false_implies, true_and, and_true, decide_true, decide_false, Int.zero_add, N.R_sl, N.R_it, R_oNone, R_oSome, wipeN, N.R_lst, N.R_mkF, N.R_mkT, N.R_meth, N.v_addT, Ri_rng1, Ri_rng2, Ri_seq, it_bd0, len_side, h.la]
  rw [thn_nx, Rs_seq, Rs_set]
  refine R_lstN (i := n) (by simp only [Rs_nil, R_call, R_cons, R_nil, R_Var, R_C, R_bin, R_cmp, R_tcmp, R_tOr, R_tAnd, R_tNot, R_tVal, R_tTrue, R_ite, R_eAnd, R_eOr, R_eNot, R_neg, R_tup, R_isi, R_some, Rc_some, N.v_eq, N.v_ne, N.v_lt, N.v_le, N.v_gt, N.v_ge, N.v_add, N.v_sub, N.v_iadd, N.v_xor, N.v_int, N.tru_b, N.pd_d, N.data_nil, N.data_cons, N.len_t, N.v_tupT, N.g_name, N.isNone_n, N.isNone_t, N.isNone_i, N.v_isN, N.v_isNn, N.v_eqB, N.v_neB, List.set_cons_succ, List.set_cons_zero, List.getElem?_cons_succ, List.getElem?_cons_zero, Bool.not_true, Bool.not_false, Bool.false_eq_true, Bool.true_eq_false, eq_self, true_implies, false_implies, true_and, and_true, decide_true, decide_false, Int.zero_add, N.R_sl, N.R_it, R_oNone, R_oSome, wipeN, N.R_lst, N.R_mkF, N.R_mkT, N.R_meth, N.v_addT, Ri_rng1, Ri_rng2, Ri_seq]) (by omega) ?_
  rw [thn_nx, Rs_seq]
  refine Rs_while (fun m e s' => ∃ k, s' = s ∧ (remB n (mvB a b) k).length = m ∧ e = [some (.d (bdD a b)), some (.d (.int (n : Nat))), some (.d (.list (nt (remB n (mvB a b) k)))), none, none, none]) (m := n) (Nat.lt_of_le_of_lt n40 (by decide)) ⟨0, rfl, by simp [remB], rfl⟩ (fun m e s' hi => ?_)
  obtain ⟨k, rfl, hm, rfl⟩ := hi
  have rl : (remB n (mvB a b) k).length ≤ 40 := by
    have : ∀ k, (remB n (mvB a b) k).length ≤ n := fun k => by
      induction k with
      | zero => simp [remB]
      | succ k ih => exact Nat.le_trans (List.length_filter_le _ _) ih
    have := this k
    omega
  simp only [Rs_nil, R_call, R_cons, R_nil, R_Var, R_C, R_bin, R_cmp, R_tcmp, R_tOr, R_tAnd, R_tNot, R_tVal, R_tTrue, R_ite, R_eAnd, R_eOr, R_eNot, R_neg, R_tup, R_isi, R_some, Rc_some, N.v_eq, N.v_ne, N.v_lt, N.v_le, N.v_gt, N.v_ge, N.v_add, N.v_sub, N.v_iadd, N.v_xor, N.v_int, N.tru_b, N.pd_d, N.data_nil, N.data_cons, N.len_t, N.v_tupT, N.g_name, N.isNone_n, N.isNone_t, N.isNone_i, N.v_isN, N.v_isNn, N.v_eqB, N.v_neB, List.set_cons_succ, List.set_cons_zero, List.getElem?_cons_succ, List.getElem?_cons_zero, Bool.not_true, Bool.not_false, Bool.false_eq_true, Bool.true_eq_false, eq_self, true_implies, false_implies, true_and, and_true, decide_true, decide_false, Int.zero_add, N.R_sl, N.R_it, R_oNone, R_oSome, wipeN, N.R_lst, N.R_mkF, N.R_mkT, N.R_meth, N.v_addT, Ri_rng1, Ri_rng2, Ri_seq]
  rw [Rs_seq, Rs_set]
  refine R_lc (remB n (mvB a b) k) (fun i => .d (.int (i : Nat))) (fun i => .int (i : Nat)) (fun i => (mvB a b true i ++ mvB a b false i).any fun j => decide (j ∈ remB n (mvB a b) k)) ?_ (fun i hi acc => ?_) (by simp only [lim]; omega) ?_
  · rw [Ri_seq]
    simp only [Rs_nil, R_call, R_cons, R_nil, R_Var, R_C, R_bin, R_cmp, R_tcmp, R_tOr, R_tAnd, R_tNot, R_tVal, R_tTrue, R_ite, R_eAnd, R_eOr, R_eNot, R_neg, R_tup, R_isi, R_some, Rc_some, N.v_eq, N.v_ne, N.v_lt, N.v_le, N.v_gt, N.v_ge, N.v_add, N.v_sub, N.v_iadd, N.v_xor, N.v_int, N.tru_b, N.pd_d, N.data_nil, N.data_cons, N.len_t, N.v_tupT, N.g_name, N.isNone_n, N.isNone_t, N.isNone_i, N.v_isN, N.v_isNn, N.v_eqB, N.v_neB, List.set_cons_succ, List.set_cons_zero, List.getElem?_cons_succ, List.getElem?_cons_zero, Bool.not_true, Bool.not_false, Bool.false_eq_true, Bool.true_eq_false, eq_self, true_implies, false_implies, true_and, and_true, decide_true, decide_false, Int.zero_add, N.R_sl, N.R_it, R_oNone, R_oSome, wipeN, N.R_lst, N.R_mkF, N.R_mkT, N.R_meth, N.v_addT, Ri_rng1, Ri_rng2, Ri_seq]
    simp [nt, Function.comp_def]
  · have hin := rem_sub n _ k i hi
    have l1 := h.len (w := true) hin
    have l2 := h.len (w := false) hin
    rw [g_name, Rc_some]
    rw [R_tVal]
    simp only [R_call, R_cons, R_nil]
    refine R_lcm (mvB a b true i ++ mvB a b false i) (fun j => .d (.int (j : Nat))) (fun j => .bool (decide (j ∈ remB n (mvB a b) k))) ?_ (fun j hj acc2 => ?_) (by simp only [lim, List.length_append]; omega) ?_
    · rw [Ri_seq]
      simp only [Rs_nil, R_call, R_cons, R_nil, R_Var, R_C, R_bin, R_cmp, R_tcmp, R_tOr, R_tAnd, R_tNot, R_tVal, R_tTrue, R_ite, R_eAnd, R_eOr, R_eNot, R_neg, R_tup, R_isi, R_some, Rc_some, N.v_eq, N.v_ne, N.v_lt, N.v_le, N.v_gt, N.v_ge, N.v_add, N.v_sub, N.v_iadd, N.v_xor, N.v_int, N.tru_b, N.pd_d, N.data_nil, N.data_cons, N.len_t, N.v_tupT, N.g_name, N.isNone_n, N.isNone_t, N.isNone_i, N.v_isN, N.v_isNn, N.v_eqB, N.v_neB, List.set_cons_succ, List.set_cons_zero, List.getElem?_cons_succ, List.getElem?_cons_zero, Bool.not_true, Bool.not_false, Bool.false_eq_true, Bool.true_eq_false, eq_self, true_implies, false_implies, true_and, and_true, decide_true, decide_false, Int.zero_add, N.R_sl, N.R_it, R_oNone, R_oSome, wipeN, N.R_lst, N.R_mkF, N.R_mkT, N.R_meth, N.v_addT, Ri_rng1, Ri_rng2, Ri_seq, it_bd0, it_bd1, it_side a (show i < a.length by rw [h.la]; exact hin), it_side b (show i < b.length by rw [h.lb]; exact hin), tup]
      refine ⟨by simp only [lim, List.length_append, nt_len]; exact Nat.le_trans (Nat.add_le_add l1 l2) (by decide), ?_⟩
      first | exact ⟨by simp [mvB, nt, Function.comp_def], rfl, rfl⟩ | simp [mvB, nt, Function.comp_def]
    · rw [g_name, Rc_some]
      have := v_inL (neg := false) (s := s' ++ [Cell.lst acc] ++ [Cell.lst acc2]) (a := .d (.int (j : Nat))) (x := .int (j : Nat)) rfl (pks_nt (remB n (mvB a b) k)) rfl (by simp [PyData.depth])
      rw [if_neg Bool.false_ne_true] at this
      simp only [Rs_nil, R_call, R_cons, R_nil, R_Var, R_C, R_bin, R_cmp, R_tcmp, R_tOr, R_tAnd, R_tNot, R_tVal, R_tTrue, R_ite, R_eAnd, R_eOr, R_eNot, R_neg, R_tup, R_isi, R_some, Rc_some, N.v_eq, N.v_ne, N.v_lt, N.v_le, N.v_gt, N.v_ge, N.v_add, N.v_sub, N.v_iadd, N.v_xor, N.v_int, N.tru_b, N.pd_d, N.data_nil, N.data_cons, N.len_t, N.v_tupT, N.g_name, N.isNone_n, N.isNone_t, N.isNone_i, N.v_isN, N.v_isNn, N.v_eqB, N.v_neB, List.set_cons_succ, List.set_cons_zero, List.getElem?_cons_succ, List.getElem?_cons_zero, Bool.not_true, Bool.not_false, Bool.false_eq_true, Bool.true_eq_false, eq_self, true_implies, false_implies, true_and, and_true, decide_true, decide_false, Int.zero_add, N.R_sl, N.R_it, R_oNone, R_oSome, wipeN, N.R_lst, N.R_mkF, N.R_mkT, N.R_meth, N.v_addT, Ri_rng1, Ri_rng2, Ri_seq, this]
      congr 2
      exact decide_eq_decide.mpr mem_nt
    · rw [v_any, R_some]
      simp only [Rs_nil, R_call, R_cons, R_nil, R_Var, R_C, R_bin, R_cmp, R_tcmp, R_tOr, R_tAnd, R_tNot, R_tVal, R_tTrue, R_ite, R_eAnd, R_eOr, R_eNot, R_neg, R_tup, R_isi, R_some, Rc_some, N.v_eq, N.v_ne, N.v_lt, N.v_le, N.v_gt, N.v_ge, N.v_add, N.v_sub, N.v_iadd, N.v_xor, N.v_int, N.tru_b, N.pd_d, N.data_nil, N.data_cons, N.len_t, N.v_tupT, N.g_name, N.isNone_n, N.isNone_t, N.isNone_i, N.v_isN, N.v_isNn, N.v_eqB, N.v_neB, List.set_cons_succ, List.set_cons_zero, List.getElem?_cons_succ, List.getElem?_cons_zero, Bool.not_true, Bool.not_false, Bool.false_eq_true, Bool.true_eq_false, eq_self, true_implies, false_implies, true_and, and_true, decide_true, decide_false, Int.zero_add, N.R_sl, N.R_it, R_oNone, R_oSome, wipeN, N.R_lst, N.R_mkF, N.R_mkT, N.R_meth, N.v_addT, Ri_rng1, Ri_rng2, Ri_seq]
      first | exact fun _ => trivial | exact ⟨rfl, rfl, fun _ => ⟨rfl, rfl⟩⟩
  rw [show ((remB n (mvB a b) k).filter fun i => (mvB a b true i ++ mvB a b false i).any fun j => decide (j ∈ remB n (mvB a b) k)).map (fun i => PyData.int (i : Nat)) = nt (remB n (mvB a b) (k + 1)) from rfl]
  have rl2 : (remB n (mvB a b) (k + 1)).length ≤ (remB n (mvB a b) k).length := List.length_filter_le _ _
  rw [thn_nx, Rs_seq, Rs_if]
  simp only [Rs_nil, R_call, R_cons, R_nil, R_Var, R_C, R_bin, R_cmp, R_tcmp, R_tOr, R_tAnd, R_tNot, R_tVal, R_tTrue, R_ite, R_eAnd, R_eOr, R_eNot, R_neg, R_tup, R_isi, R_some, Rc_some, N.v_eq, N.v_ne, N.v_lt, N.v_le, N.v_gt, N.v_ge, N.v_add, N.v_sub, N.v_iadd, N.v_xor, N.v_int, N.tru_b, N.pd_d, N.data_nil, N.data_cons, N.len_t, N.v_tupT, N.g_name, N.isNone_n, N.isNone_t, N.isNone_i, N.v_isN, N.v_isNn, N.v_eqB, N.v_neB, List.set_cons_succ, List.set_cons_zero, List.getElem?_cons_succ, List.getElem?_cons_zero, Bool.not_true, Bool.not_false, Bool.false_eq_true, Bool.true_eq_false, eq_self, true_implies, false_implies, true_and, and_true, decide_true, decide_false, Int.zero_add, N.R_sl, N.R_it, R_oNone, R_oSome, wipeN, N.R_lst, N.R_mkF, N.R_mkT, N.R_meth, N.v_addT, Ri_rng1, Ri_rng2, Ri_seq, len_l, nt_len]
  refine ⟨fun h1 => ?_, fun h1 => ?_⟩
  · rw [Rs_seq, Rs_ret]
    simp only [Rs_nil, R_call, R_cons, R_nil, R_Var, R_C, R_bin, R_cmp, R_tcmp, R_tOr, R_tAnd, R_tNot, R_tVal, R_tTrue, R_ite, R_eAnd, R_eOr, R_eNot, R_neg, R_tup, R_isi, R_some, Rc_some, N.v_eq, N.v_ne, N.v_lt, N.v_le, N.v_gt, N.v_ge, N.v_add, N.v_sub, N.v_iadd, N.v_xor, N.v_int, N.tru_b, N.pd_d, N.data_nil, N.data_cons, N.len_t, N.v_tupT, N.g_name, N.isNone_n, N.isNone_t, N.isNone_i, N.v_isN, N.v_isNn, N.v_eqB, N.v_neB, List.set_cons_succ, List.set_cons_zero, List.getElem?_cons_succ, List.getElem?_cons_zero, Bool.not_true, Bool.not_false, Bool.false_eq_true, Bool.true_eq_false, eq_self, true_implies, false_implies, true_and, and_true, decide_true, decide_false, Int.zero_add, N.R_sl, N.R_it, R_oNone, R_oSome, wipeN, N.R_lst, N.R_mkF, N.R_mkT, N.R_meth, N.v_addT, Ri_rng1, Ri_rng2, Ri_seq, tru_nt]
    rw [thn_rt, thn_rt, aft_rt]
    refine R_retd.mpr ⟨by simp, _, rfl, fun h2 w i hi => ?_⟩
    refine rem_rk ok k i hi (fun hm => ?_) w
    have h3 : (remB n (mvB a b) k).isEmpty = true := by simpa using h2
    rw [List.isEmpty_iff.mp h3] at hm
    cases hm
  · have h1 := of_decide_eq_false h1
    try rw [Rs_nil]
    rw [thn_nx, Rs_seq, Rs_set]
    simp only [Rs_nil, R_call, R_cons, R_nil, R_Var, R_C, R_bin, R_cmp, R_tcmp, R_tOr, R_tAnd, R_tNot, R_tVal, R_tTrue, R_ite, R_eAnd, R_eOr, R_eNot, R_neg, R_tup, R_isi, R_some, Rc_some, N.v_eq, N.v_ne, N.v_lt, N.v_le, N.v_gt, N.v_ge, N.v_add, N.v_sub, N.v_iadd, N.v_xor, N.v_int, N.tru_b, N.pd_d, N.data_nil, N.data_cons, N.len_t, N.v_tupT, N.g_name, N.isNone_n, N.isNone_t, N.isNone_i, N.v_isN, N.v_isNn, N.v_eqB, N.v_neB, List.set_cons_succ, List.set_cons_zero, List.getElem?_cons_succ, List.getElem?_cons_zero, Bool.not_true, Bool.not_false, Bool.false_eq_true, Bool.true_eq_false, eq_self, true_implies, false_implies, true_and, and_true, decide_true, decide_false, Int.zero_add, N.R_sl, N.R_it, R_oNone, R_oSome, wipeN, N.R_lst, N.R_mkF, N.R_mkT, N.R_meth, N.v_addT, Ri_rng1, Ri_rng2, Ri_seq]
    rw [thn_nx, Rs_nil, aft_nx, trimE_len rfl]
    exact ⟨(remB n (mvB a b) (k + 1)).length, by omega, k + 1, rfl, rfl, by simp [wipeN]⟩
end
end N

namespace N
open PySem L2 PyProof.Rows

theorem all_rng (xs ys : List PyData) (h : xs.length = ys.length) : ((List.range xs.length).all fun k => decide (xs.getD k .none = ys.getD k .none)) = decide (xs = ys) := by
  rw [Bool.eq_iff_iff, decide_eq_true_eq, List.all_eq_true]
  constructor
  · intro hx
    refine List.ext_getElem h fun k h1 h2 => ?_
    have := of_decide_eq_true (hx k (List.mem_range.mpr h1))
    rw [List.getD_eq_getElem?_getD, List.getD_eq_getElem?_getD, List.getElem?_eq_getElem h1, List.getElem?_eq_getElem h2] at this
    exact this
  · rintro rfl k _
    exact decide_eq_true rfl
theorem sameD_row {F : FA} {xs ys : List PyData} {s : Sto} {Q : D → Sto → Prop} {l0 : Option D} {d1 d2 : D} (hd : (d1 = .d (.tuple xs) ∧ d2 = .d (.tuple ys)) ∨ (d1 = .d (.list xs) ∧ d2 = .d (.list ys))) (hl : xs.length ≤ lim) (he : xs.length = ys.length) (h : ∀ x ∈ xs, ∀ y ∈ ys, ∀ s, F s [.d x, .d y] = some (.d (.bool (decide (x = y))), s)) (q : Q (.d (.list ((List.range xs.length).map fun k => .bool (decide (xs.getD k .none = ys.getD k .none))))) s) :
    R (eLc false [2] (iRng1 (aCons (eCall bLen (aCons (eVar 0) aNil)) aNil)) (gName 2) tTrue (eCall F (aCons (eIt (eVar 0) (eVar 2)) (aCons (eIt (eVar 1) (eVar 2)) aNil))) [some d1, some d2, l0] s) Q := by
  have hl' : xs.length ≤ 1000000 := hl
  refine R_lcm (List.range xs.length) (fun k => .d (.int ((0 : Int) + (k : Nat)))) (fun k => .bool (decide (xs.getD k .none = ys.getD k .none))) ?_ (fun k hk acc => ?_) (by simpa using hl) q
  · rcases hd with ⟨rfl, rfl⟩ | ⟨rfl, rfl⟩
    · simp [rngD]
      omega
    · simp [rngD, len_l]
      omega
  · have hk := rng_mem hk
    have hk2 : k < ys.length := by omega
    have hx : xs[k]? = some xs[k] := List.getElem?_eq_getElem hk
    have hy : ys[k]? = some ys[k] := List.getElem?_eq_getElem hk2
    have e1 : xs.getD k .none = xs[k] := by rw [List.getD_eq_getElem?_getD, hx]; rfl
    have e2 : ys.getD k .none = ys[k] := by rw [List.getD_eq_getElem?_getD, hy]; rfl
    have hh : itF (s ++ [.lst acc]) d1 (.d (.int (k : Nat))) = some (.d xs[k]) := by
      rcases hd with ⟨rfl, rfl⟩ | ⟨rfl, rfl⟩
      · exact itF_t (atI_nat hx)
      · exact itF_tl (atI_nat hx)
    have hh2 : itF (s ++ [.lst acc]) d2 (.d (.int (k : Nat))) = some (.d ys[k]) := by
      rcases hd with ⟨rfl, rfl⟩ | ⟨rfl, rfl⟩
      · exact itF_t (atI_nat hy)
      · exact itF_tl (atI_nat hy)
    rw [e1, e2]
    simp [wipeN, R_it, hh, hh2, h _ (List.getElem_mem hk) _ (List.getElem_mem hk2)]
theorem same_dec : ∀ (n : Nat) (x y : PyData) (s : Sto), sok n x → sok n y → m__law_same n s [.d x, .d y] = some (.d (.bool (decide (x = y))), s)
  | 0, _, _, _, h, _ => h.elim
  | n + 1, x, y, s, hx, hy => by
    apply R.eq
    unfold m__law_same b__law_same
    have rowC : ∀ (xs ys : List PyData), sok (n + 1) (.tuple xs) → sok (n + 1) (.tuple ys) → ∀ {d1 d2 : D} {l0 : Option D}, ((d1 = .d (.tuple xs) ∧ d2 = .d (.tuple ys)) ∨ (d1 = .d (.list xs) ∧ d2 = .d (.list ys))) → xs.length = ys.length → ∀ {Q : D → Sto → Prop}, Q (.d (.list ((List.range xs.length).map fun k => .bool (decide (xs.getD k .none = ys.getD k .none))))) s → R (eLc false [2] (iRng1 (aCons (eCall bLen (aCons (eVar 0) aNil)) aNil)) (gName 2) tTrue (eCall (m__law_same n) (aCons (eIt (eVar 0) (eVar 2)) (aCons (eIt (eVar 1) (eVar 2)) aNil))) [some d1, some d2, l0] s) Q := fun xs ys hx hy d1 d2 l0 hd he Q q =>
      sameD_row hd hx.1 he (fun x hxm y hym s => same_dec n x y s (hx.2 x hxm) (hy.2 y hym)) q
    cases x <;> cases y
    case dict.dict => exact hx.elim
    case tuple.tuple xs ys =>
      simp [R_fn, TyT.of, Z.isTup, Z.isLst, Z.isBl, Z.isInt, Z.isStr]
      refine ⟨fun h1 => ?_, fun h1 => ?_⟩
      · have h1 : xs.length = ys.length := by omega
        refine rowC xs ys hx hy (.inl ⟨rfl, rfl⟩) h1 ?_
        rw [all_map, R_some, all_rng xs ys h1]
        simp [R_retd]
      · have : xs ≠ ys := fun e => h1 (by rw [e])
        simp [R_retd, this]
        omega
    case list.list xs ys =>
      simp [R_fn, TyT.of, Z.isTup, Z.isLst, Z.isBl, Z.isInt, Z.isStr, len_l]
      refine ⟨fun h1 => ?_, fun h1 => ?_⟩
      · have h1 : xs.length = ys.length := by omega
        refine rowC xs ys hx hy (.inr ⟨rfl, rfl⟩) h1 ?_
        rw [all_map, R_some, all_rng xs ys h1]
        simp [R_retd]
      · have : xs ≠ ys := fun e => h1 (by rw [e])
        simp [R_retd, this]
        omega
    all_goals first | exact hx.elim | exact hy.elim | (simp [R_fn, TyT.of, Z.isTup, Z.isLst, Z.isBl, Z.isInt, Z.isStr, R_retd]; done) | (simp [R_fn, TyT.of, Z.isTup, Z.isLst, Z.isBl, Z.isInt, Z.isStr, R_retd]; rfl)
theorem R_same2 {n : Nat} {x y : PyData} {s : Sto} {Q : D → Sto → Prop} (hx : sok n x) (hy : sok n y) (q : Q (.d (.bool (decide (x = y)))) s) : R (m__law_same n s [.d x, .d y]) Q := .of (same_dec n x y s hx hy) q
end N

namespace N
open PySem L2 PyProof.Rows

def isRk : PyData → Bool
  | .none => true
  | .int i => decide (0 ≤ i) && decide (i ≤ 1000000)
  | _ => false
theorem is_rank_ok (x : PyData) (s : Sto) : m_is_rank s [.d x] = some (.d (.bool (isRk x)), s) := by
  have hp : ∀ s, oPow s (.d (.int 10)) (.d (.int 6)) = some (.d (.int 1000000), s) := fun s => v_pow (by decide)
  apply R.eq
  unfold m_is_rank b_is_rank
  rw [R_fn]
  refine ⟨rfl, ?_⟩
  simp only [List.map_cons, List.map_nil, List.cons_append, List.nil_append, List.length_cons, List.length_nil, Nat.reduceSub, Nat.reduceAdd, List.replicate_succ, List.replicate_zero]
  rw [Rs_seq, Rs_ret]
  cases x with
  | none =>
    simp only [Rs_nil, R_call, R_cons, R_nil, R_Var, R_C, R_bin, R_cmp, R_tcmp, R_tOr, R_tAnd, R_tNot, R_tVal, R_tTrue, R_ite, R_eAnd, R_eOr, R_eNot, R_neg, R_tup, R_isi, R_some, Rc_some, N.v_eq, N.v_ne, N.v_lt, N.v_le, N.v_gt, N.v_ge, N.v_add, N.v_sub, N.v_iadd, N.v_xor, N.v_int, N.tru_b, N.pd_d, N.data_nil, N.data_cons, N.len_t, N.v_tupT, N.g_name, N.isNone_n, N.isNone_t, N.isNone_i, N.v_isN, N.v_isNn, N.v_eqB, N.v_neB, List.set_cons_succ, List.set_cons_zero, List.getElem?_cons_succ, List.getElem?_cons_zero, Bool.not_true, Bool.not_false, Bool.false_eq_true, Bool.true_eq_false, eq_self, true_implies, false_implies, true_and, and_true, decide_true, decide_false, Int.zero_add, N.R_sl, N.R_it, R_oNone, R_oSome, wipeN, N.R_lst, N.R_mkF, N.R_mkT, N.R_meth, N.v_addT, Ri_rng1, Ri_rng2, Ri_seq]
    rw [thn_rt]
    exact R_retd.mpr ⟨rfl, by simp⟩
  | int i =>
    simp only [Rs_nil, R_call, R_cons, R_nil, R_Var, R_C, R_bin, R_cmp, R_tcmp, R_tOr, R_tAnd, R_tNot, R_tVal, R_tTrue, R_ite, R_eAnd, R_eOr, R_eNot, R_neg, R_tup, R_isi, R_some, Rc_some, N.v_eq, N.v_ne, N.v_lt, N.v_le, N.v_gt, N.v_ge, N.v_add, N.v_sub, N.v_iadd, N.v_xor, N.v_int, N.tru_b, N.pd_d, N.data_nil, N.data_cons, N.len_t, N.v_tupT, N.g_name, N.isNone_n, N.isNone_t, N.isNone_i, N.v_isN, N.v_isNn, N.v_eqB, N.v_neB, List.set_cons_succ, List.set_cons_zero, List.getElem?_cons_succ, List.getElem?_cons_zero, Bool.not_true, Bool.not_false, Bool.false_eq_true, Bool.true_eq_false, eq_self, true_implies, false_implies, true_and, and_true, decide_true, decide_false, Int.zero_add, N.R_sl, N.R_it, R_oNone, R_oSome, wipeN, N.R_lst, N.R_mkF, N.R_mkT, N.R_meth, N.v_addT, Ri_rng1, Ri_rng2, Ri_seq, hp, number_ok]
    rw [thn_rt]
    exact R_retd.mpr ⟨rfl, by simp⟩
  | _ =>
    simp only [Rs_nil, R_call, R_cons, R_nil, R_Var, R_C, R_bin, R_cmp, R_tcmp, R_tOr, R_tAnd, R_tNot, R_tVal, R_tTrue, R_ite, R_eAnd, R_eOr, R_eNot, R_neg, R_tup, R_isi, R_some, Rc_some, N.v_eq, N.v_ne, N.v_lt, N.v_le, N.v_gt, N.v_ge, N.v_add, N.v_sub, N.v_iadd, N.v_xor, N.v_int, N.tru_b, N.pd_d, N.data_nil, N.data_cons, N.len_t, N.v_tupT, N.g_name, N.isNone_n, N.isNone_t, N.isNone_i, N.v_isN, N.v_isNn, N.v_eqB, N.v_neB, List.set_cons_succ, List.set_cons_zero, List.getElem?_cons_succ, List.getElem?_cons_zero, Bool.not_true, Bool.not_false, Bool.false_eq_true, Bool.true_eq_false, eq_self, true_implies, false_implies, true_and, and_true, decide_true, decide_false, Int.zero_add, N.R_sl, N.R_it, R_oNone, R_oSome, wipeN, N.R_lst, N.R_mkF, N.R_mkT, N.R_meth, N.v_addT, Ri_rng1, Ri_rng2, Ri_seq, hp, number_ok, show ∀ z, isNone (.d (.str z)) = false from fun _ => rfl, show ∀ z, isNone (.d (.bool z)) = false from fun _ => rfl, show ∀ z, isNone (.d (.list z)) = false from fun _ => rfl, show ∀ z, isNone (.d (.dict z)) = false from fun _ => rfl]
    rw [thn_rt]
    exact R_retd.mpr ⟨rfl, by simp⟩
theorem even_test (o : Option Nat) (e : Lo) (s : Sto) {k : Nat} (h : e[k]? = some (some (.d (encR o)))) : R (tAnd (tCmp (cIsN true) (eVar k) (eC .none)) (tCmp cEq (eBin oMod (eVar k) (eC (.int 2))) (eC (.int 0))) e s) fun t s' => t = evR o ∧ s' = s := by
  cases o with
  | none =>
    simp only [Rs_nil, R_call, R_cons, R_nil, R_Var, R_C, R_bin, R_cmp, R_tcmp, R_tOr, R_tAnd, R_tNot, R_tVal, R_tTrue, R_ite, R_eAnd, R_eOr, R_eNot, R_neg, R_tup, R_isi, R_some, Rc_some, N.v_eq, N.v_ne, N.v_lt, N.v_le, N.v_gt, N.v_ge, N.v_add, N.v_sub, N.v_iadd, N.v_xor, N.v_int, N.tru_b, N.pd_d, N.data_nil, N.data_cons, N.len_t, N.v_tupT, N.g_name, N.isNone_n, N.isNone_t, N.isNone_i, N.v_isN, N.v_isNn, N.v_eqB, N.v_neB, List.set_cons_succ, List.set_cons_zero, List.getElem?_cons_succ, List.getElem?_cons_zero, Bool.not_true, Bool.not_false, Bool.false_eq_true, Bool.true_eq_false, eq_self, true_implies, false_implies, true_and, and_true, decide_true, decide_false, Int.zero_add, N.R_sl, N.R_it, R_oNone, R_oSome, wipeN, N.R_lst, N.R_mkF, N.R_mkT, N.R_meth, N.v_addT, Ri_rng1, Ri_rng2, Ri_seq, h, encR]
    simp [evR]
  | some t =>
    simp only [Rs_nil, R_call, R_cons, R_nil, R_Var, R_C, R_bin, R_cmp, R_tcmp, R_tOr, R_tAnd, R_tNot, R_tVal, R_tTrue, R_ite, R_eAnd, R_eOr, R_eNot, R_neg, R_tup, R_isi, R_some, Rc_some, N.v_eq, N.v_ne, N.v_lt, N.v_le, N.v_gt, N.v_ge, N.v_add, N.v_sub, N.v_iadd, N.v_xor, N.v_int, N.tru_b, N.pd_d, N.data_nil, N.data_cons, N.len_t, N.v_tupT, N.g_name, N.isNone_n, N.isNone_t, N.isNone_i, N.v_isN, N.v_isNn, N.v_eqB, N.v_neB, List.set_cons_succ, List.set_cons_zero, List.getElem?_cons_succ, List.getElem?_cons_zero, Bool.not_true, Bool.not_false, Bool.false_eq_true, Bool.true_eq_false, eq_self, true_implies, false_implies, true_and, and_true, decide_true, decide_false, Int.zero_add, N.R_sl, N.R_it, R_oNone, R_oSome, wipeN, N.R_lst, N.R_mkF, N.R_mkT, N.R_meth, N.v_addT, Ri_rng1, Ri_rng2, Ri_seq, h, encR]
    rw [v_mod (show (0 : Int) < 2 by decide)]
    simp only [Rs_nil, R_call, R_cons, R_nil, R_Var, R_C, R_bin, R_cmp, R_tcmp, R_tOr, R_tAnd, R_tNot, R_tVal, R_tTrue, R_ite, R_eAnd, R_eOr, R_eNot, R_neg, R_tup, R_isi, R_some, Rc_some, N.v_eq, N.v_ne, N.v_lt, N.v_le, N.v_gt, N.v_ge, N.v_add, N.v_sub, N.v_iadd, N.v_xor, N.v_int, N.tru_b, N.pd_d, N.data_nil, N.data_cons, N.len_t, N.v_tupT, N.g_name, N.isNone_n, N.isNone_t, N.isNone_i, N.v_isN, N.v_isNn, N.v_eqB, N.v_neB, List.set_cons_succ, List.set_cons_zero, List.getElem?_cons_succ, List.getElem?_cons_zero, Bool.not_true, Bool.not_false, Bool.false_eq_true, Bool.true_eq_false, eq_self, true_implies, false_implies, true_and, and_true, decide_true, decide_false, Int.zero_add, N.R_sl, N.R_it, R_oNone, R_oSome, wipeN, N.R_lst, N.R_mkF, N.R_mkT, N.R_meth, N.v_addT, Ri_rng1, Ri_rng2, Ri_seq]
    unfold evR
    exact decide_eq_decide.mpr (by omega)
/-- the numbers of a row -/
def numR : List (Option Nat) → List Nat
  | [] => []
  | none :: l => numR l
  | some t :: l => t :: numR l
theorem mem_numR {t : Nat} : ∀ {l : List (Option Nat)}, t ∈ numR l ↔ some t ∈ l
  | [] => by simp [numR]
  | none :: l => by rw [numR, mem_numR]; simp
  | some x :: l => by rw [numR, List.mem_cons, mem_numR, List.mem_cons]; simp
theorem numR_enc : ∀ {l : List (Option Nat)}, (∀ o ∈ l, o ≠ none) → l.map encR = nt (numR l)
  | [], _ => rfl
  | none :: l, h => absurd rfl (h none List.mem_cons_self)
  | some x :: l, h => by
    rw [numR, List.map_cons, numR_enc fun o ho => h o (List.mem_cons_of_mem _ ho)]
    rfl
theorem numR_len : ∀ (l : List (Option Nat)), (numR l).length ≤ l.length
  | [] => Nat.le_refl _
  | none :: l => by have := numR_len l; rw [numR, List.length_cons]; omega
  | some x :: l => by have := numR_len l; rw [numR, List.length_cons, List.length_cons]; omega
theorem intsOf_nt (ns : List Nat) : intsOf ((nt ns).map D.d) = some (ns.map ci) := by
  rw [← intsOf_ints]
  simp [nt, Function.comp_def]
  rfl
theorem R_minN {ns : List Nat} (hn : ns ≠ []) {s : Sto} {Q : D → Sto → Prop} (q : ∀ m : Nat, m ∈ ns → (∀ x ∈ ns, m ≤ x) → Q (.d (.int (m : Nat))) s) : R (bMinL s [.d (.list (nt ns))]) Q := by
  obtain ⟨m, hm⟩ : ∃ m, (ns.map ci).min? = some m := by
    cases ns with
    | nil => exact absurd rfl hn
    | cons a l => exact ⟨_, List.min?_cons' ..⟩
  obtain ⟨h1, h2⟩ := List.min?_eq_some_iff.mp hm
  obtain ⟨k, hk, rfl⟩ := List.mem_map.mp h1
  unfold bMinL qL f1 asL
  simp only [intsOf_nt, hm, R_some]
  exact q k hk fun x hx => Int.ofNat_le.mp (h2 _ (List.mem_map_of_mem (f := ci) hx))
theorem R_maxN {ns : List Nat} (hn : ns ≠ []) {s : Sto} {Q : D → Sto → Prop} (q : ∀ m : Nat, m ∈ ns → (∀ x ∈ ns, x ≤ m) → Q (.d (.int (m : Nat))) s) : R (bMaxL s [.d (.list (nt ns))]) Q := by
  obtain ⟨m, hm⟩ : ∃ m, (ns.map ci).max? = some m := by
    cases ns with
    | nil => exact absurd rfl hn
    | cons a l => exact ⟨_, List.max?_cons' ..⟩
  obtain ⟨h1, h2⟩ := List.max?_eq_some_iff.mp hm
  obtain ⟨k, hk, rfl⟩ := List.mem_map.mp h1
  unfold bMaxL qL f1 asL
  simp only [intsOf_nt, hm, R_some]
  exact q k hk fun x hx => Int.ofNat_le.mp (h2 _ (List.mem_map_of_mem (f := ci) hx))
noncomputable def fxB (rows : List (Option Nat)) (o : Option Nat) : Bool := @decide (FxR rows o) (Classical.propDecidable _)
theorem fxB_iff {rows : List (Option Nat)} {o : Option Nat} {t : Bool} (h : t = true ↔ FxR rows o) : t = fxB rows o := by
  unfold fxB
  rw [Bool.eq_iff_iff, h]
  exact (@decide_eq_true_iff _ (Classical.propDecidable _)).symm
theorem eq_enc (o : Option Nat) (m : Nat) (s : Sto) : cEq s (.d (encR o)) (.d (.int (m : Nat))) = some (decide (o = some m)) := by
  rw [v_eqP (x := encR o) (y := .int (m : Nat)) rfl rfl (pk_encR o) rfl (by rw [depth_encR]; omega)]
  congr 1
  refine decide_eq_decide.mpr ⟨fun h => encR_inj h, fun h => by rw [h]; rfl⟩
theorem is_none_enc (o : Option Nat) : isNone (.d (encR o)) = decide (o = none) := by
  cases o <;> rfl
section
variable {n : Nat} {a b : List (List Nat)}
theorem right_okR (h : Bd n a b) (V : Bool → Nat → Option Nat) (w : Bool) {i : Nat} (hi : i < n) (s : Sto) : m_is_right s [.d (bdD a b), .d (rksD n V), .d (.str (whoS w)), .d (.int (i : Nat))] = some (.d (.bool (fxB ((mvB a b w i).map (V (!w))) (V w i))), s) := by
  have ok := h.ok
  have ln := h.len (w := w) hi
  apply R.eq
  unfold m_is_right b_is_right
  rw [R_fn]
  refine ⟨rfl, ?_⟩
  simp only [List.map_cons, List.map_nil, List.cons_append, List.nil_append, List.length_cons, List.length_nil, Nat.reduceSub, Nat.reduceAdd, List.replicate_succ, List.replicate_zero]
  rw [Rs_seq, Rs_set]
  refine R_lcm (mvB a b w i) (fun k => .d (.int (k : Nat))) (fun k => encR (V (!w) k)) ?_ (fun k hk acc => ?_) (by simp only [lim]; omega) ?_
  · rw [Ri_seq]
    simp only [Rs_nil, R_call, R_cons, R_nil, R_Var, R_C, R_bin, R_cmp, R_tcmp, R_tOr, R_tAnd, R_tNot, R_tVal, R_tTrue, R_ite, R_eAnd, R_eOr, R_eNot, R_neg, R_tup, R_isi, R_some, Rc_some, N.v_eq, N.v_ne, N.v_lt, N.v_le, N.v_gt, N.v_ge, N.v_add, N.v_sub, N.v_iadd, N.v_xor, N.v_int, N.tru_b, N.pd_d, N.data_nil, N.data_cons, N.len_t, N.v_tupT, N.g_name, N.isNone_n, N.isNone_t, N.isNone_i, N.v_isN, N.v_isNn, N.v_eqB, N.v_neB, List.set_cons_succ, List.set_cons_zero, List.getElem?_cons_succ, List.getElem?_cons_zero, Bool.not_true, Bool.not_false, Bool.false_eq_true, Bool.true_eq_false, eq_self, true_implies, false_implies, true_and, and_true, decide_true, decide_false, Int.zero_add, N.R_sl, N.R_it, R_oNone, R_oSome, wipeN, N.R_lst, N.R_mkF, N.R_mkT, N.R_meth, N.v_addT, Ri_rng1, Ri_rng2, Ri_seq, mof_ok, it_side (if w then a else b) (show i < (if w then a else b).length by rw [h.side w]; exact hi)]
    rw [mv_eq]
    simp [tup, nt, Function.comp_def]
  · have hkn := ok.lt w i hi k hk
    rw [g_name, Rc_some]
    simp only [Rs_nil, R_call, R_cons, R_nil, R_Var, R_C, R_bin, R_cmp, R_tcmp, R_tOr, R_tAnd, R_tNot, R_tVal, R_tTrue, R_ite, R_eAnd, R_eOr, R_eNot, R_neg, R_tup, R_isi, R_some, Rc_some, N.v_eq, N.v_ne, N.v_lt, N.v_le, N.v_gt, N.v_ge, N.v_add, N.v_sub, N.v_iadd, N.v_xor, N.v_int, N.tru_b, N.pd_d, N.data_nil, N.data_cons, N.len_t, N.v_tupT, N.g_name, N.isNone_n, N.isNone_t, N.isNone_i, N.v_isN, N.v_isNn, N.v_eqB, N.v_neB, List.set_cons_succ, List.set_cons_zero, List.getElem?_cons_succ, List.getElem?_cons_zero, Bool.not_true, Bool.not_false, Bool.false_eq_true, Bool.true_eq_false, eq_self, true_implies, false_implies, true_and, and_true, decide_true, decide_false, Int.zero_add, N.R_sl, N.R_it, R_oNone, R_oSome, wipeN, N.R_lst, N.R_mkF, N.R_mkT, N.R_meth, N.v_addT, Ri_rng1, Ri_rng2, Ri_seq, other_ok, rank_of_ok V (!w) hkn]
    try exact ⟨rfl, rfl⟩
  rw [show (mvB a b w i).map (fun k => encR (V (!w) k)) = ((mvB a b w i).map (V (!w))).map encR by rw [List.map_map]; rfl]
  have lr : ((mvB a b w i).map (V (!w))).length ≤ 40 := by rw [List.length_map]; exact ln
  generalize (mvB a b w i).map (V (!w)) = rows at lr
  rw [thn_nx, Rs_seq, Rs_set]
  refine R_lc rows (fun o => .d (encR o)) encR evR ?_ (fun o ho acc => ?_) (by simp only [lim]; omega) ?_
  · rw [Ri_seq]
    simp only [Rs_nil, R_call, R_cons, R_nil, R_Var, R_C, R_bin, R_cmp, R_tcmp, R_tOr, R_tAnd, R_tNot, R_tVal, R_tTrue, R_ite, R_eAnd, R_eOr, R_eNot, R_neg, R_tup, R_isi, R_some, Rc_some, N.v_eq, N.v_ne, N.v_lt, N.v_le, N.v_gt, N.v_ge, N.v_add, N.v_sub, N.v_iadd, N.v_xor, N.v_int, N.tru_b, N.pd_d, N.data_nil, N.data_cons, N.len_t, N.v_tupT, N.g_name, N.isNone_n, N.isNone_t, N.isNone_i, N.v_isN, N.v_isNn, N.v_eqB, N.v_neB, List.set_cons_succ, List.set_cons_zero, List.getElem?_cons_succ, List.getElem?_cons_zero, Bool.not_true, Bool.not_false, Bool.false_eq_true, Bool.true_eq_false, eq_self, true_implies, false_implies, true_and, and_true, decide_true, decide_false, Int.zero_add, N.R_sl, N.R_it, R_oNone, R_oSome, wipeN, N.R_lst, N.R_mkF, N.R_mkT, N.R_meth, N.v_addT, Ri_rng1, Ri_rng2, Ri_seq]
    simp [Function.comp_def]
  · rw [g_name, Rc_some]
    refine (even_test o _ _ rfl).imp fun t s' ⟨h1, h2⟩ => ?_
    subst h1 h2
    refine ⟨rfl, rfl, fun _ => ?_⟩
    simp only [Rs_nil, R_call, R_cons, R_nil, R_Var, R_C, R_bin, R_cmp, R_tcmp, R_tOr, R_tAnd, R_tNot, R_tVal, R_tTrue, R_ite, R_eAnd, R_eOr, R_eNot, R_neg, R_tup, R_isi, R_some, Rc_some, N.v_eq, N.v_ne, N.v_lt, N.v_le, N.v_gt, N.v_ge, N.v_add, N.v_sub, N.v_iadd, N.v_xor, N.v_int, N.tru_b, N.pd_d, N.data_nil, N.data_cons, N.len_t, N.v_tupT, N.g_name, N.isNone_n, N.isNone_t, N.isNone_i, N.v_isN, N.v_isNn, N.v_eqB, N.v_neB, List.set_cons_succ, List.set_cons_zero, List.getElem?_cons_succ, List.getElem?_cons_zero, Bool.not_true, Bool.not_false, Bool.false_eq_true, Bool.true_eq_false, eq_self, true_implies, false_implies, true_and, and_true, decide_true, decide_false, Int.zero_add, N.R_sl, N.R_it, R_oNone, R_oSome, wipeN, N.R_lst, N.R_mkF, N.R_mkT, N.R_meth, N.v_addT, Ri_rng1, Ri_rng2, Ri_seq]
    try exact ⟨rfl, rfl⟩
  have fe : (rows.filter evR).map encR = nt (numR (rows.filter evR)) := numR_enc fun o ho e => by
    have := (List.mem_filter.mp ho).2
    rw [e] at this
    cases this
  have me : ∀ e, e ∈ numR (rows.filter evR) ↔ some e ∈ rows ∧ e % 2 = 0 := fun e => by
    rw [mem_numR, List.mem_filter]
    exact and_congr_right fun _ => by unfold evR; rw [decide_eq_true_eq]
  have le : (numR (rows.filter evR)).length ≤ 40 := by
    have h1 := numR_len (rows.filter evR)
    have h2 := List.length_filter_le evR rows
    omega
  rw [fe]
  generalize numR (rows.filter evR) = E at me le
  rw [thn_nx, Rs_seq, Rs_if]
  simp only [Rs_nil, R_call, R_cons, R_nil, R_Var, R_C, R_bin, R_cmp, R_tcmp, R_tOr, R_tAnd, R_tNot, R_tVal, R_tTrue, R_ite, R_eAnd, R_eOr, R_eNot, R_neg, R_tup, R_isi, R_some, Rc_some, N.v_eq, N.v_ne, N.v_lt, N.v_le, N.v_gt, N.v_ge, N.v_add, N.v_sub, N.v_iadd, N.v_xor, N.v_int, N.tru_b, N.pd_d, N.data_nil, N.data_cons, N.len_t, N.v_tupT, N.g_name, N.isNone_n, N.isNone_t, N.isNone_i, N.v_isN, N.v_isNn, N.v_eqB, N.v_neB, List.set_cons_succ, List.set_cons_zero, List.getElem?_cons_succ, List.getElem?_cons_zero, Bool.not_true, Bool.not_false, Bool.false_eq_true, Bool.true_eq_false, eq_self, true_implies, false_implies, true_and, and_true, decide_true, decide_false, Int.zero_add, N.R_sl, N.R_it, R_oNone, R_oSome, wipeN, N.R_lst, N.R_mkF, N.R_mkT, N.R_meth, N.v_addT, Ri_rng1, Ri_rng2, Ri_seq, tru_nt]
  refine ⟨fun h1 => ?_, fun h1 => ?_⟩
  · have hE : E ≠ [] := fun e => by rw [e] at h1; simp at h1
    rw [Rs_seq, Rs_ret]
    simp only [Rs_nil, R_call, R_cons, R_nil, R_Var, R_C, R_bin, R_cmp, R_tcmp, R_tOr, R_tAnd, R_tNot, R_tVal, R_tTrue, R_ite, R_eAnd, R_eOr, R_eNot, R_neg, R_tup, R_isi, R_some, Rc_some, N.v_eq, N.v_ne, N.v_lt, N.v_le, N.v_gt, N.v_ge, N.v_add, N.v_sub, N.v_iadd, N.v_xor, N.v_int, N.tru_b, N.pd_d, N.data_nil, N.data_cons, N.len_t, N.v_tupT, N.g_name, N.isNone_n, N.isNone_t, N.isNone_i, N.v_isN, N.v_isNn, N.v_eqB, N.v_neB, List.set_cons_succ, List.set_cons_zero, List.getElem?_cons_succ, List.getElem?_cons_zero, Bool.not_true, Bool.not_false, Bool.false_eq_true, Bool.true_eq_false, eq_self, true_implies, false_implies, true_and, and_true, decide_true, decide_false, Int.zero_add, N.R_sl, N.R_it, R_oNone, R_oSome, wipeN, N.R_lst, N.R_mkF, N.R_mkT, N.R_meth, N.v_addT, Ri_rng1, Ri_rng2, Ri_seq, rank_of_ok V w hi]
    refine R_minN hE fun m hm hmin => ?_
    simp only [Rs_nil, R_call, R_cons, R_nil, R_Var, R_C, R_bin, R_cmp, R_tcmp, R_tOr, R_tAnd, R_tNot, R_tVal, R_tTrue, R_ite, R_eAnd, R_eOr, R_eNot, R_neg, R_tup, R_isi, R_some, Rc_some, N.v_eq, N.v_ne, N.v_lt, N.v_le, N.v_gt, N.v_ge, N.v_add, N.v_sub, N.v_iadd, N.v_xor, N.v_int, N.tru_b, N.pd_d, N.data_nil, N.data_cons, N.len_t, N.v_tupT, N.g_name, N.isNone_n, N.isNone_t, N.isNone_i, N.v_isN, N.v_isNn, N.v_eqB, N.v_neB, List.set_cons_succ, List.set_cons_zero, List.getElem?_cons_succ, List.getElem?_cons_zero, Bool.not_true, Bool.not_false, Bool.false_eq_true, Bool.true_eq_false, eq_self, true_implies, false_implies, true_and, and_true, decide_true, decide_false, Int.zero_add, N.R_sl, N.R_it, R_oNone, R_oSome, wipeN, N.R_lst, N.R_mkF, N.R_mkT, N.R_meth, N.v_addT, Ri_rng1, Ri_rng2, Ri_seq]
    rw [show ((m : Nat) : Int) + 1 = ((m + 1 : Nat) : Int) by omega, eq_enc, Rc_some, thn_rt, thn_rt]
    refine R_retd.mpr ⟨?_, by simp⟩
    congr 2
    refine fxB_iff ?_
    rw [decide_eq_true_eq]
    obtain ⟨m1, m2⟩ := (me m).mp hm
    constructor
    · intro ho
      refine ⟨fun e he he2 => ⟨m, ho, m1, m2, fun e' a1 a2 => hmin e' ((me e').mpr ⟨a1, a2⟩)⟩, fun a1 _ => ?_, fun a1 => ?_⟩
      · have := a1 m m1
        omega
      · obtain ⟨e, e1, e2⟩ := a1 _ m1
        cases e1
        omega
    · intro f
      obtain ⟨t, t1, t2, t3, t4⟩ := f.ev m m1 m2
      have l1 := t4 m m1 m2
      have l2 := hmin t ((me t).mpr ⟨t2, t3⟩)
      rw [t1]
      congr 1
      omega
  · have hE : ∀ e, some e ∈ rows → e % 2 = 1 := fun e he => by
      have h2 : E = [] := by
        cases E with
        | nil => rfl
        | cons x l => simp at h1
      have h3 : ¬ e % 2 = 0 := fun h3 => by
        have := (me e).mpr ⟨he, h3⟩
        rw [h2] at this
        cases this
      omega
    try rw [Rs_nil]
    rw [thn_nx, Rs_seq, Rs_if, R_tVal]
    simp only [R_call, R_cons, R_nil]
    refine R_lcm rows (fun o => .d (encR o)) (fun o => .bool (decide (o = none))) ?_ (fun o ho acc => ?_) (by simp only [lim]; omega) ?_
    · rw [Ri_seq]
      simp only [Rs_nil, R_call, R_cons, R_nil, R_Var, R_C, R_bin, R_cmp, R_tcmp, R_tOr, R_tAnd, R_tNot, R_tVal, R_tTrue, R_ite, R_eAnd, R_eOr, R_eNot, R_neg, R_tup, R_isi, R_some, Rc_some, N.v_eq, N.v_ne, N.v_lt, N.v_le, N.v_gt, N.v_ge, N.v_add, N.v_sub, N.v_iadd, N.v_xor, N.v_int, N.tru_b, N.pd_d, N.data_nil, N.data_cons, N.len_t, N.v_tupT, N.g_name, N.isNone_n, N.isNone_t, N.isNone_i, N.v_isN, N.v_isNn, N.v_eqB, N.v_neB, List.set_cons_succ, List.set_cons_zero, List.getElem?_cons_succ, List.getElem?_cons_zero, Bool.not_true, Bool.not_false, Bool.false_eq_true, Bool.true_eq_false, eq_self, true_implies, false_implies, true_and, and_true, decide_true, decide_false, Int.zero_add, N.R_sl, N.R_it, R_oNone, R_oSome, wipeN, N.R_lst, N.R_mkF, N.R_mkT, N.R_meth, N.v_addT, Ri_rng1, Ri_rng2, Ri_seq]
      simp [Function.comp_def]
    · rw [g_name, Rc_some]
      cases o <;> simp only [Rs_nil, R_call, R_cons, R_nil, R_Var, R_C, R_bin, R_cmp, R_tcmp, R_tOr, R_tAnd, R_tNot, R_tVal, R_tTrue, R_ite, R_eAnd, R_eOr, R_eNot, R_neg, R_tup, R_isi, R_some, Rc_some, N.v_eq, N.v_ne, N.v_lt, N.v_le, N.v_gt, N.v_ge, N.v_add, N.v_sub, N.v_iadd, N.v_xor, N.v_int, N.tru_b, N.pd_d, N.data_nil, N.data_cons, N.len_t, N.v_tupT, N.g_name, N.isNone_n, N.isNone_t, N.isNone_i, N.v_isN, N.v_isNn, N.v_eqB, N.v_neB, List.set_cons_succ, List.set_cons_zero, List.getElem?_cons_succ, List.getElem?_cons_zero, Bool.not_true, Bool.not_false, Bool.false_eq_true, Bool.true_eq_false, eq_self, true_implies, false_implies, true_and, and_true, decide_true, decide_false, Int.zero_add, N.R_sl, N.R_it, R_oNone, R_oSome, wipeN, N.R_lst, N.R_mkF, N.R_mkT, N.R_meth, N.v_addT, Ri_rng1, Ri_rng2, Ri_seq, encR] <;> simp
    rw [v_any, R_some]
    simp only [Rs_nil, R_call, R_cons, R_nil, R_Var, R_C, R_bin, R_cmp, R_tcmp, R_tOr, R_tAnd, R_tNot, R_tVal, R_tTrue, R_ite, R_eAnd, R_eOr, R_eNot, R_neg, R_tup, R_isi, R_some, Rc_some, N.v_eq, N.v_ne, N.v_lt, N.v_le, N.v_gt, N.v_ge, N.v_add, N.v_sub, N.v_iadd, N.v_xor, N.v_int, N.tru_b, N.pd_d, N.data_nil, N.data_cons, N.len_t, N.v_tupT, N.g_name, N.isNone_n, N.isNone_t, N.isNone_i, N.v_isN, N.v_isNn, N.v_eqB, N.v_neB, List.set_cons_succ, List.set_cons_zero, List.getElem?_cons_succ, List.getElem?_cons_zero, Bool.not_true, Bool.not_false, Bool.false_eq_true, Bool.true_eq_false, eq_self, true_implies, false_implies, true_and, and_true, decide_true, decide_false, Int.zero_add, N.R_sl, N.R_it, R_oNone, R_oSome, wipeN, N.R_lst, N.R_mkF, N.R_mkT, N.R_meth, N.v_addT, Ri_rng1, Ri_rng2, Ri_seq]
    refine ⟨fun h2 => ?_, fun h2 => ?_⟩
    · have hn : none ∈ rows := by
        obtain ⟨o, ho, e⟩ := List.any_eq_true.mp h2
        rw [of_decide_eq_true e] at ho
        exact ho
      rw [Rs_seq, Rs_ret]
      simp only [Rs_nil, R_call, R_cons, R_nil, R_Var, R_C, R_bin, R_cmp, R_tcmp, R_tOr, R_tAnd, R_tNot, R_tVal, R_tTrue, R_ite, R_eAnd, R_eOr, R_eNot, R_neg, R_tup, R_isi, R_some, Rc_some, N.v_eq, N.v_ne, N.v_lt, N.v_le, N.v_gt, N.v_ge, N.v_add, N.v_sub, N.v_iadd, N.v_xor, N.v_int, N.tru_b, N.pd_d, N.data_nil, N.data_cons, N.len_t, N.v_tupT, N.g_name, N.isNone_n, N.isNone_t, N.isNone_i, N.v_isN, N.v_isNn, N.v_eqB, N.v_neB, List.set_cons_succ, List.set_cons_zero, List.getElem?_cons_succ, List.getElem?_cons_zero, Bool.not_true, Bool.not_false, Bool.false_eq_true, Bool.true_eq_false, eq_self, true_implies, false_implies, true_and, and_true, decide_true, decide_false, Int.zero_add, N.R_sl, N.R_it, R_oNone, R_oSome, wipeN, N.R_lst, N.R_mkF, N.R_mkT, N.R_meth, N.v_addT, Ri_rng1, Ri_rng2, Ri_seq, rank_of_ok V w hi, is_none_enc]
      rw [thn_rt, thn_rt]
      refine R_retd.mpr ⟨?_, by simp⟩
      congr 2
      refine fxB_iff ?_
      rw [decide_eq_true_eq]
      constructor
      · intro ho
        refine ⟨fun e he he2 => ?_, fun _ _ => ho, fun a1 => ?_⟩
        · have := hE e he
          omega
        · obtain ⟨e, e1, _⟩ := a1 _ hn
          cases e1
      · exact fun f => f.nn hE hn
    · have hn : ∀ o ∈ rows, ∃ e, o = some e ∧ e % 2 = 1 := fun o ho => by
        have := List.any_eq_false.mp h2 o ho
        cases o with
        | none => simp at this
        | some e => exact ⟨e, rfl, hE e ho⟩
      have en : rows.map encR = nt (numR rows) := numR_enc fun o ho e => by
        obtain ⟨_, h3, _⟩ := hn o ho
        rw [h3] at e
        cases e
      have ln2 := numR_len rows
      try rw [Rs_nil]
      rw [thn_nx, Rs_seq, Rs_ret]
      simp only [Rs_nil, R_call, R_cons, R_nil, R_Var, R_C, R_bin, R_cmp, R_tcmp, R_tOr, R_tAnd, R_tNot, R_tVal, R_tTrue, R_ite, R_eAnd, R_eOr, R_eNot, R_neg, R_tup, R_isi, R_some, Rc_some, N.v_eq, N.v_ne, N.v_lt, N.v_le, N.v_gt, N.v_ge, N.v_add, N.v_sub, N.v_iadd, N.v_xor, N.v_int, N.tru_b, N.pd_d, N.data_nil, N.data_cons, N.len_t, N.v_tupT, N.g_name, N.isNone_n, N.isNone_t, N.isNone_i, N.v_isN, N.v_isNn, N.v_eqB, N.v_neB, List.set_cons_succ, List.set_cons_zero, List.getElem?_cons_succ, List.getElem?_cons_zero, Bool.not_true, Bool.not_false, Bool.false_eq_true, Bool.true_eq_false, eq_self, true_implies, false_implies, true_and, and_true, decide_true, decide_false, Int.zero_add, N.R_sl, N.R_it, R_oNone, R_oSome, wipeN, N.R_lst, N.R_mkF, N.R_mkT, N.R_meth, N.v_addT, Ri_rng1, Ri_rng2, Ri_seq, rank_of_ok V w hi]
      refine R_lcm (numR rows) (fun e => .d (.int (e : Nat))) (fun e => .int (e + 1 : Nat)) ?_ (fun e he acc => ?_) (by simp only [lim]; omega) ?_
      · rw [Ri_seq]
        simp only [Rs_nil, R_call, R_cons, R_nil, R_Var, R_C, R_bin, R_cmp, R_tcmp, R_tOr, R_tAnd, R_tNot, R_tVal, R_tTrue, R_ite, R_eAnd, R_eOr, R_eNot, R_neg, R_tup, R_isi, R_some, Rc_some, N.v_eq, N.v_ne, N.v_lt, N.v_le, N.v_gt, N.v_ge, N.v_add, N.v_sub, N.v_iadd, N.v_xor, N.v_int, N.tru_b, N.pd_d, N.data_nil, N.data_cons, N.len_t, N.v_tupT, N.g_name, N.isNone_n, N.isNone_t, N.isNone_i, N.v_isN, N.v_isNn, N.v_eqB, N.v_neB, List.set_cons_succ, List.set_cons_zero, List.getElem?_cons_succ, List.getElem?_cons_zero, Bool.not_true, Bool.not_false, Bool.false_eq_true, Bool.true_eq_false, eq_self, true_implies, false_implies, true_and, and_true, decide_true, decide_false, Int.zero_add, N.R_sl, N.R_it, R_oNone, R_oSome, wipeN, N.R_lst, N.R_mkF, N.R_mkT, N.R_meth, N.v_addT, Ri_rng1, Ri_rng2, Ri_seq, en]
        simp [nt, Function.comp_def]
      · rw [g_name, Rc_some]
        simp only [Rs_nil, R_call, R_cons, R_nil, R_Var, R_C, R_bin, R_cmp, R_tcmp, R_tOr, R_tAnd, R_tNot, R_tVal, R_tTrue, R_ite, R_eAnd, R_eOr, R_eNot, R_neg, R_tup, R_isi, R_some, Rc_some, N.v_eq, N.v_ne, N.v_lt, N.v_le, N.v_gt, N.v_ge, N.v_add, N.v_sub, N.v_iadd, N.v_xor, N.v_int, N.tru_b, N.pd_d, N.data_nil, N.data_cons, N.len_t, N.v_tupT, N.g_name, N.isNone_n, N.isNone_t, N.isNone_i, N.v_isN, N.v_isNn, N.v_eqB, N.v_neB, List.set_cons_succ, List.set_cons_zero, List.getElem?_cons_succ, List.getElem?_cons_zero, Bool.not_true, Bool.not_false, Bool.false_eq_true, Bool.true_eq_false, eq_self, true_implies, false_implies, true_and, and_true, decide_true, decide_false, Int.zero_add, N.R_sl, N.R_it, R_oNone, R_oSome, wipeN, N.R_lst, N.R_mkF, N.R_mkT, N.R_meth, N.v_addT, Ri_rng1, Ri_rng2, Ri_seq]
        first | rfl | exact ⟨rfl, rfl⟩
      refine ⟨by simp [lim], ?_⟩
      rw [v_addLL]
      refine ⟨by simp only [lim, List.length_map, List.length_cons, List.length_nil]; omega, ?_⟩
      rw [show (numR rows).map (fun e => PyData.int ((e + 1 : Nat) : Nat)) ++ [PyData.int 0] = nt ((numR rows).map (· + 1) ++ [0]) by unfold nt; rw [List.map_append, List.map_map]; rfl]
      refine R_maxN (by simp) fun m hm hmax => ?_
      rw [eq_enc, Rc_some, thn_rt]
      refine R_retd.mpr ⟨?_, by simp⟩
      congr 2
      refine fxB_iff ?_
      rw [decide_eq_true_eq]
      have h3 : ∀ e, some e ∈ rows → e + 1 ≤ m := fun e he => hmax _ (List.mem_append.mpr (.inl (List.mem_map.mpr ⟨e, mem_numR.mpr he, rfl⟩)))
      have h4 : m = 0 ∨ ∃ e, some e ∈ rows ∧ e + 1 = m := by
        rcases List.mem_append.mp hm with h5 | h5
        · obtain ⟨e, he, e2⟩ := List.mem_map.mp h5
          exact .inr ⟨e, mem_numR.mp he, e2⟩
        · exact .inl (List.mem_singleton.mp h5)
      constructor
      · intro ho
        refine ⟨fun e he he2 => ?_, fun _ a2 => ?_, fun _ => ⟨m, ho, h3, h4⟩⟩
        · have := hE e he
          omega
        · obtain ⟨e, e1, _⟩ := hn _ a2
          cases e1
      · intro f
        obtain ⟨t, t1, t2, t3⟩ := f.od hn
        rw [t1]
        congr 1
        rcases h4 with h4 | ⟨e, h5, h6⟩
        · rcases t3 with t3 | ⟨e', h7, h8⟩
          · omega
          · have := h3 e' h7
            omega
        · have := t2 e h5
          rcases t3 with t3 | ⟨e', h7, h8⟩
          · omega
          · have := h3 e' h7
            omega
end
def decR : PyData → Option Nat
  | .int i => some i.toNat
  | _ => none
theorem enc_dec {x : PyData} (h : isRk x = true) : encR (decR x) = x := by
  cases x <;> simp [isRk] at h
  · rfl
  · rename_i i
    show PyData.int ((i.toNat : Nat) : Int) = .int i
    rw [Int.toNat_of_nonneg h.1]
theorem isRk_enc {o : Option Nat} (h : ∀ t, o = some t → t ≤ 1000000) : isRk (encR o) = true := by
  cases o with
  | none => rfl
  | some t =>
    have := h t rfl
    simp [encR, isRk]
    omega
def rowOk (n : Nat) : PyData → Bool
  | .tuple r => decide (r.length = n) && r.all isRk
  | _ => false
theorem row_dec {n : Nat} {x : PyData} (h : rowOk n x = true) : ∃ f : Nat → Option Nat, x = .tuple ((List.range n).map fun i => encR (f i)) := by
  cases x with
  | tuple r =>
    unfold rowOk at h
    rw [Bool.and_eq_true, decide_eq_true_eq] at h
    refine ⟨fun i => decR (r.getD i .none), ?_⟩
    congr 1
    refine List.ext_getElem (by simp [h.1]) fun k h1 h2 => ?_
    rw [List.getElem_map, List.getElem_range]
    show r[k] = encR (decR (r.getD k .none))
    rw [List.getD_eq_getElem?_getD, List.getElem?_eq_getElem h1, Option.getD_some]
    exact (enc_dec (List.all_eq_true.mp h.2 _ (List.getElem_mem h1))).symm
  | _ => cases h
theorem rks_inj {n : Nat} {f g : Bool → Nat → Option Nat} (h : rksD n f = rksD n g) : ∀ w i, i < n → f w i = g w i := by
  unfold rksD rowR at h
  simp only [PyData.tuple.injEq, List.cons.injEq, and_true] at h
  intro w i hi
  have key : ∀ {A B : Nat → Option Nat}, (List.range n).map (fun i => encR (A i)) = (List.range n).map (fun i => encR (B i)) → A i = B i := fun {A B} e => by
    have := congrArg (fun l => l[i]?) e
    simp only [List.getElem?_map, List.getElem?_range hi, Option.map_some, Option.some.injEq] at this
    exact encR_inj this
  cases w
  · exact key h.2
  · exact key h.1
theorem rks_congr {n : Nat} {f g : Bool → Nat → Option Nat} (h : ∀ w i, i < n → f w i = g w i) : rksD n f = rksD n g := by
  unfold rksD rowR
  have key : ∀ w, (List.range n).map (fun i => encR (f w i)) = (List.range n).map (fun i => encR (g w i)) := fun w => List.map_congr_left fun i hi => by rw [h w i (List.mem_range.mp hi)]
  rw [key true, key false]
theorem rk_small {n : Nat} (hn : n ≤ 40) {mv : Bool → Nat → List Nat} {w : Bool} {i t : Nat} (h : rkB n mv w i = some t) : t < 80 := by
  have := (stg_lt h).1
  omega
theorem row_isrow {n : Nat} (hn : n ≤ 40) (mv : Bool → Nat → List Nat) (w : Bool) : rowOk n (rowR n (rkB n mv) w) = true := by
  show (decide (((List.range n).map fun i => encR (rkB n mv w i)).length = n) && ((List.range n).map fun i => encR (rkB n mv w i)).all isRk) = true
  rw [List.length_map, List.length_range, decide_eq_true rfl, Bool.true_and, List.all_eq_true]
  intro x hx
  obtain ⟨i, _, rfl⟩ := List.mem_map.mp hx
  exact isRk_enc fun t ht => by have := rk_small hn ht; omega
theorem all_flat {α β : Type} (l : List α) (l2 : List β) (f : α → β → Bool) : ((l.flatMap fun x => l2.map (f x)).all id) = l.all fun x => l2.all (f x) := by
  induction l with
  | nil => rfl
  | cons a l ih => rw [List.flatMap_cons, List.all_append, ih, List.all_cons, List.all_map]; rfl
section
variable {n : Nat} {a b : List (List Nat)}
theorem are_ok (h : Bd n a b) {x : PyData} (hx : wd 1000 10 x) (s : Sto) : m_are_ranks s [.d (bdD a b), .d x] = some (.d (.bool (decide (x = rksD n (rkB n (mvB a b))))), s) := by
  have ok := h.ok
  have n1 := h.n1
  have n40 := h.n40
  apply R.eq
  unfold m_are_ranks b_are_ranks
  rw [R_fn]
  refine ⟨rfl, ?_⟩
  simp only [List.map_cons, List.map_nil, List.cons_append, List.nil_append, List.length_cons, List.length_nil, Nat.reduceSub, Nat.reduceAdd, List.replicate_succ, List.replicate_zero]
  rw [Rs_seq, Rs_set]
  simp only [Rs_nil, R_call, R_cons, R_nil, R_Var, R_C, R_bin, R_cmp, R_tcmp, R_tOr, R_tAnd, R_tNot, R_tVal, R_tTrue, R_ite, R_eAnd, R_eOr, R_eNot, R_neg, R_tup, R_isi, R_some, Rc_some, N.v_eq, N.v_ne, N.v_lt, N.v_le, N.v_gt, N.v_ge, N.v_add, N.v_sub, N.v_iadd, N.v_xor, N.v_int, N.tru_b, N.pd_d, N.data_nil, N.data_cons, N.len_t, N.v_tupT, N.g_name, N.isNone_n, N.isNone_t, N.isNone_i, N.v_isN, N.v_isNn, N.v_eqB, N.v_neB, List.set_cons_succ, List.set_cons_zero, List.getElem?_cons_succ, List.getElem?_cons_zero, Bool.not_true, Bool.not_false, Bool.false_eq_true, Bool.true_eq_false, eq_self, true_implies, false_implies, true_and, and_true, decide_true, decide_false, Int.zero_add, N.R_sl, N.R_it, R_oNone, R_oSome, wipeN, N.R_lst, N.R_mkF, N.R_mkT, N.R_meth, N.v_addT, Ri_rng1, Ri_rng2, Ri_seq, it_bd0, len_side, h.la]
  rw [thn_nx, Rs_seq, Rs_if]
  have no : x ≠ rksD n (rkB n (mvB a b)) → R (ret false s (.d (.bool false)) s) fun y s' => y = .d (.bool (decide (x = rksD n (rkB n (mvB a b))))) ∧ s' = s := fun hne => by
    rw [decide_eq_false hne]
    exact R_retd.mpr ⟨rfl, by simp⟩
  by_cases htup : ∃ xs, x = .tuple xs ∧ xs.length = 2
  · obtain ⟨xs, rfl, hl2⟩ := htup
    simp only [Rs_nil, R_call, R_cons, R_nil, R_Var, R_C, R_bin, R_cmp, R_tcmp, R_tOr, R_tAnd, R_tNot, R_tVal, R_tTrue, R_ite, R_eAnd, R_eOr, R_eNot, R_neg, R_tup, R_isi, R_some, Rc_some, N.v_eq, N.v_ne, N.v_lt, N.v_le, N.v_gt, N.v_ge, N.v_add, N.v_sub, N.v_iadd, N.v_xor, N.v_int, N.tru_b, N.pd_d, N.data_nil, N.data_cons, N.len_t, N.v_tupT, N.g_name, N.isNone_n, N.isNone_t, N.isNone_i, N.v_isN, N.v_isNn, N.v_eqB, N.v_neB, List.set_cons_succ, List.set_cons_zero, List.getElem?_cons_succ, List.getElem?_cons_zero, Bool.not_true, Bool.not_false, Bool.false_eq_true, Bool.true_eq_false, eq_self, true_implies, false_implies, true_and, and_true, decide_true, decide_false, Int.zero_add, N.R_sl, N.R_it, R_oNone, R_oSome, wipeN, N.R_lst, N.R_mkF, N.R_mkT, N.R_meth, N.v_addT, Ri_rng1, Ri_rng2, Ri_seq, show TyT.tup.of (.tuple xs) = true from rfl, hl2, show decide (((2 : Nat) : Int) = 2) = true from rfl]
    have lx : ∀ z ∈ xs, ∀ r, z = .tuple r → r.length ≤ 1000 := fun z hz r e => by
      have := hx.2 z hz
      rw [e] at this
      exact this.1
    try rw [Rs_nil]
    rw [thn_nx, Rs_seq, Rs_if, R_tNot, R_tVal]
    simp only [R_call, R_cons, R_nil]
    refine R_lcm xs (fun z => .d z) (fun z => .bool (rowOk n z)) (by rw [Ri_seq]; simp only [Rs_nil, R_call, R_cons, R_nil, R_Var, R_C, R_bin, R_cmp, R_tcmp, R_tOr, R_tAnd, R_tNot, R_tVal, R_tTrue, R_ite, R_eAnd, R_eOr, R_eNot, R_neg, R_tup, R_isi, R_some, Rc_some, N.v_eq, N.v_ne, N.v_lt, N.v_le, N.v_gt, N.v_ge, N.v_add, N.v_sub, N.v_iadd, N.v_xor, N.v_int, N.tru_b, N.pd_d, N.data_nil, N.data_cons, N.len_t, N.v_tupT, N.g_name, N.isNone_n, N.isNone_t, N.isNone_i, N.v_isN, N.v_isNn, N.v_eqB, N.v_neB, List.set_cons_succ, List.set_cons_zero, List.getElem?_cons_succ, List.getElem?_cons_zero, Bool.not_true, Bool.not_false, Bool.false_eq_true, Bool.true_eq_false, eq_self, true_implies, false_implies, true_and, and_true, decide_true, decide_false, Int.zero_add, N.R_sl, N.R_it, R_oNone, R_oSome, wipeN, N.R_lst, N.R_mkF, N.R_mkT, N.R_meth, N.v_addT, Ri_rng1, Ri_rng2, Ri_seq]) (fun z hz acc => ?_) (by simp only [lim]; omega) ?_
    · rw [g_name, Rc_some]
      cases z with
      | tuple r =>
        have lr := lx _ hz r rfl
        simp only [Rs_nil, R_call, R_cons, R_nil, R_Var, R_C, R_bin, R_cmp, R_tcmp, R_tOr, R_tAnd, R_tNot, R_tVal, R_tTrue, R_ite, R_eAnd, R_eOr, R_eNot, R_neg, R_tup, R_isi, R_some, Rc_some, N.v_eq, N.v_ne, N.v_lt, N.v_le, N.v_gt, N.v_ge, N.v_add, N.v_sub, N.v_iadd, N.v_xor, N.v_int, N.tru_b, N.pd_d, N.data_nil, N.data_cons, N.len_t, N.v_tupT, N.g_name, N.isNone_n, N.isNone_t, N.isNone_i, N.v_isN, N.v_isNn, N.v_eqB, N.v_neB, List.set_cons_succ, List.set_cons_zero, List.getElem?_cons_succ, List.getElem?_cons_zero, Bool.not_true, Bool.not_false, Bool.false_eq_true, Bool.true_eq_false, eq_self, true_implies, false_implies, true_and, and_true, decide_true, decide_false, Int.zero_add, N.R_sl, N.R_it, R_oNone, R_oSome, wipeN, N.R_lst, N.R_mkF, N.R_mkT, N.R_meth, N.v_addT, Ri_rng1, Ri_rng2, Ri_seq, show TyT.tup.of (.tuple r) = true from rfl]
        refine ⟨fun q1 => ?_, fun q1 => ?_⟩
        · have q1 : r.length = n := by have := of_decide_eq_true q1; omega
          refine R_lcm r (fun z => .d z) (fun z => .bool (isRk z)) (by rw [Ri_seq]; simp only [Rs_nil, R_call, R_cons, R_nil, R_Var, R_C, R_bin, R_cmp, R_tcmp, R_tOr, R_tAnd, R_tNot, R_tVal, R_tTrue, R_ite, R_eAnd, R_eOr, R_eNot, R_neg, R_tup, R_isi, R_some, Rc_some, N.v_eq, N.v_ne, N.v_lt, N.v_le, N.v_gt, N.v_ge, N.v_add, N.v_sub, N.v_iadd, N.v_xor, N.v_int, N.tru_b, N.pd_d, N.data_nil, N.data_cons, N.len_t, N.v_tupT, N.g_name, N.isNone_n, N.isNone_t, N.isNone_i, N.v_isN, N.v_isNn, N.v_eqB, N.v_neB, List.set_cons_succ, List.set_cons_zero, List.getElem?_cons_succ, List.getElem?_cons_zero, Bool.not_true, Bool.not_false, Bool.false_eq_true, Bool.true_eq_false, eq_self, true_implies, false_implies, true_and, and_true, decide_true, decide_false, Int.zero_add, N.R_sl, N.R_it, R_oNone, R_oSome, wipeN, N.R_lst, N.R_mkF, N.R_mkT, N.R_meth, N.v_addT, Ri_rng1, Ri_rng2, Ri_seq]) (fun z hz acc => ?_) (by simp only [lim]; omega) ?_
          · rw [g_name, Rc_some]
            simp only [Rs_nil, R_call, R_cons, R_nil, R_Var, R_C, R_bin, R_cmp, R_tcmp, R_tOr, R_tAnd, R_tNot, R_tVal, R_tTrue, R_ite, R_eAnd, R_eOr, R_eNot, R_neg, R_tup, R_isi, R_some, Rc_some, N.v_eq, N.v_ne, N.v_lt, N.v_le, N.v_gt, N.v_ge, N.v_add, N.v_sub, N.v_iadd, N.v_xor, N.v_int, N.tru_b, N.pd_d, N.data_nil, N.data_cons, N.len_t, N.v_tupT, N.g_name, N.isNone_n, N.isNone_t, N.isNone_i, N.v_isN, N.v_isNn, N.v_eqB, N.v_neB, List.set_cons_succ, List.set_cons_zero, List.getElem?_cons_succ, List.getElem?_cons_zero, Bool.not_true, Bool.not_false, Bool.false_eq_true, Bool.true_eq_false, eq_self, true_implies, false_implies, true_and, and_true, decide_true, decide_false, Int.zero_add, N.R_sl, N.R_it, R_oNone, R_oSome, wipeN, N.R_lst, N.R_mkF, N.R_mkT, N.R_meth, N.v_addT, Ri_rng1, Ri_rng2, Ri_seq, is_rank_ok]
          · rw [all_map, R_some]
            rw [show rowOk n (.tuple r) = (decide (r.length = n) && r.all isRk) from rfl, decide_eq_true q1, Bool.true_and]
            exact ⟨rfl, rfl⟩
        · have q2 : ¬ r.length = n := by have := of_decide_eq_false q1; omega
          rw [show rowOk n (.tuple r) = (decide (r.length = n) && r.all isRk) from rfl, decide_eq_false q2, Bool.false_and]
          first | done | (rw [q1]; done) | (rw [q1]; exact ⟨rfl, rfl⟩)
      | _ =>
        simp only [Rs_nil, R_call, R_cons, R_nil, R_Var, R_C, R_bin, R_cmp, R_tcmp, R_tOr, R_tAnd, R_tNot, R_tVal, R_tTrue, R_ite, R_eAnd, R_eOr, R_eNot, R_neg, R_tup, R_isi, R_some, Rc_some, N.v_eq, N.v_ne, N.v_lt, N.v_le, N.v_gt, N.v_ge, N.v_add, N.v_sub, N.v_iadd, N.v_xor, N.v_int, N.tru_b, N.pd_d, N.data_nil, N.data_cons, N.len_t, N.v_tupT, N.g_name, N.isNone_n, N.isNone_t, N.isNone_i, N.v_isN, N.v_isNn, N.v_eqB, N.v_neB, List.set_cons_succ, List.set_cons_zero, List.getElem?_cons_succ, List.getElem?_cons_zero, Bool.not_true, Bool.not_false, Bool.false_eq_true, Bool.true_eq_false, eq_self, true_implies, false_implies, true_and, and_true, decide_true, decide_false, Int.zero_add, N.R_sl, N.R_it, R_oNone, R_oSome, wipeN, N.R_lst, N.R_mkF, N.R_mkT, N.R_meth, N.v_addT, Ri_rng1, Ri_rng2, Ri_seq, show ∀ z, TyT.tup.of (.int z) = false from fun _ => rfl, show ∀ z, TyT.tup.of (.str z) = false from fun _ => rfl, show ∀ z, TyT.tup.of (.bool z) = false from fun _ => rfl, show TyT.tup.of .none = false from rfl, show ∀ z, TyT.tup.of (.list z) = false from fun _ => rfl, show ∀ z, TyT.tup.of (.dict z) = false from fun _ => rfl]
        first | exact ⟨rfl, rfl⟩ | rfl
    rw [all_map, R_some]
    simp only [Rs_nil, R_call, R_cons, R_nil, R_Var, R_C, R_bin, R_cmp, R_tcmp, R_tOr, R_tAnd, R_tNot, R_tVal, R_tTrue, R_ite, R_eAnd, R_eOr, R_eNot, R_neg, R_tup, R_isi, R_some, Rc_some, N.v_eq, N.v_ne, N.v_lt, N.v_le, N.v_gt, N.v_ge, N.v_add, N.v_sub, N.v_iadd, N.v_xor, N.v_int, N.tru_b, N.pd_d, N.data_nil, N.data_cons, N.len_t, N.v_tupT, N.g_name, N.isNone_n, N.isNone_t, N.isNone_i, N.v_isN, N.v_isNn, N.v_eqB, N.v_neB, List.set_cons_succ, List.set_cons_zero, List.getElem?_cons_succ, List.getElem?_cons_zero, Bool.not_true, Bool.not_false, Bool.false_eq_true, Bool.true_eq_false, eq_self, true_implies, false_implies, true_and, and_true, decide_true, decide_false, Int.zero_add, N.R_sl, N.R_it, R_oNone, R_oSome, wipeN, N.R_lst, N.R_mkF, N.R_mkT, N.R_meth, N.v_addT, Ri_rng1, Ri_rng2, Ri_seq]
    obtain ⟨x0, x1, rfl⟩ : ∃ x0 x1, xs = [x0, x1] := by
      match xs, hl2 with
      | [x0, x1], _ => exact ⟨x0, x1, rfl⟩
    refine ⟨fun h1 => ?_, fun h1 => ?_⟩
    · rw [Rs_seq, Rs_ret]
      simp only [Rs_nil, R_call, R_cons, R_nil, R_Var, R_C, R_bin, R_cmp, R_tcmp, R_tOr, R_tAnd, R_tNot, R_tVal, R_tTrue, R_ite, R_eAnd, R_eOr, R_eNot, R_neg, R_tup, R_isi, R_some, Rc_some, N.v_eq, N.v_ne, N.v_lt, N.v_le, N.v_gt, N.v_ge, N.v_add, N.v_sub, N.v_iadd, N.v_xor, N.v_int, N.tru_b, N.pd_d, N.data_nil, N.data_cons, N.len_t, N.v_tupT, N.g_name, N.isNone_n, N.isNone_t, N.isNone_i, N.v_isN, N.v_isNn, N.v_eqB, N.v_neB, List.set_cons_succ, List.set_cons_zero, List.getElem?_cons_succ, List.getElem?_cons_zero, Bool.not_true, Bool.not_false, Bool.false_eq_true, Bool.true_eq_false, eq_self, true_implies, false_implies, true_and, and_true, decide_true, decide_false, Int.zero_add, N.R_sl, N.R_it, R_oNone, R_oSome, wipeN, N.R_lst, N.R_mkF, N.R_mkT, N.R_meth, N.v_addT, Ri_rng1, Ri_rng2, Ri_seq]
      rw [thn_rt, thn_rt]
      refine no fun e => ?_
      unfold rksD at e
      simp only [PyData.tuple.injEq, List.cons.injEq, and_true] at e
      rw [Bool.not_eq_true'] at h1
      rw [e.1, e.2] at h1
      simp only [List.all_cons, List.all_nil, row_isrow n40, Bool.and_self] at h1
      cases h1
    · have h1 : ([x0, x1].all (rowOk n)) = true := by simpa using h1
      simp only [List.all_cons, List.all_nil, Bool.and_true, Bool.and_eq_true] at h1
      obtain ⟨f0, rfl⟩ := row_dec h1.1
      obtain ⟨f1, rfl⟩ := row_dec h1.2
      have eV : PyData.tuple [.tuple ((List.range n).map fun i => encR (f0 i)), .tuple ((List.range n).map fun i => encR (f1 i))] = rksD n (fun w i => if w then f0 i else f1 i) := rfl
      rw [eV]
      generalize (fun (w : Bool) (i : Nat) => if w then f0 i else f1 i) = V
      try rw [Rs_nil]
      rw [thn_nx, Rs_seq, Rs_ret]
      simp only [R_call, R_cons, R_nil]
      refine R_lc2m ([true, false] : List Bool) (fun w => .d (.str (whoS w))) (fun _ => List.range n) (fun i => .d (.int (i : Nat))) (fun w i => .bool (fxB ((mvB a b w i).map (V (!w))) (V w i))) ?_ (fun w hw acc => ?_) (by simp [lim]; omega) ?_
      · rw [Ri_seq]
        simp only [Rs_nil, R_call, R_cons, R_nil, R_Var, R_C, R_bin, R_cmp, R_tcmp, R_tOr, R_tAnd, R_tNot, R_tVal, R_tTrue, R_ite, R_eAnd, R_eOr, R_eNot, R_neg, R_tup, R_isi, R_some, Rc_some, N.v_eq, N.v_ne, N.v_lt, N.v_le, N.v_gt, N.v_ge, N.v_add, N.v_sub, N.v_iadd, N.v_xor, N.v_int, N.tru_b, N.pd_d, N.data_nil, N.data_cons, N.len_t, N.v_tupT, N.g_name, N.isNone_n, N.isNone_t, N.isNone_i, N.v_isN, N.v_isNn, N.v_eqB, N.v_neB, List.set_cons_succ, List.set_cons_zero, List.getElem?_cons_succ, List.getElem?_cons_zero, Bool.not_true, Bool.not_false, Bool.false_eq_true, Bool.true_eq_false, eq_self, true_implies, false_implies, true_and, and_true, decide_true, decide_false, Int.zero_add, N.R_sl, N.R_it, R_oNone, R_oSome, wipeN, N.R_lst, N.R_mkF, N.R_mkT, N.R_meth, N.v_addT, Ri_rng1, Ri_rng2, Ri_seq]
        rfl
      · rw [g_name, Rc_some, Ri_rng1]
        simp only [Rs_nil, R_call, R_cons, R_nil, R_Var, R_C, R_bin, R_cmp, R_tcmp, R_tOr, R_tAnd, R_tNot, R_tVal, R_tTrue, R_ite, R_eAnd, R_eOr, R_eNot, R_neg, R_tup, R_isi, R_some, Rc_some, N.v_eq, N.v_ne, N.v_lt, N.v_le, N.v_gt, N.v_ge, N.v_add, N.v_sub, N.v_iadd, N.v_xor, N.v_int, N.tru_b, N.pd_d, N.data_nil, N.data_cons, N.len_t, N.v_tupT, N.g_name, N.isNone_n, N.isNone_t, N.isNone_i, N.v_isN, N.v_isNn, N.v_eqB, N.v_neB, List.set_cons_succ, List.set_cons_zero, List.getElem?_cons_succ, List.getElem?_cons_zero, Bool.not_true, Bool.not_false, Bool.false_eq_true, Bool.true_eq_false, eq_self, true_implies, false_implies, true_and, and_true, decide_true, decide_false, Int.zero_add, N.R_sl, N.R_it, R_oNone, R_oSome, wipeN, N.R_lst, N.R_mkF, N.R_mkT, N.R_meth, N.v_addT, Ri_rng1, Ri_rng2, Ri_seq]
        refine ⟨⟨⟨by omega, by omega⟩, rng0N rfl⟩, fun i hi acc => ?_⟩
        have hi := List.mem_range.mp hi
        rw [right_okR h V w hi, R_some]
        first | exact ⟨rfl, rfl⟩ | rfl
      · have ef : (([true, false] : List Bool).flatMap fun w => (List.range n).map fun i => PyData.bool (fxB ((mvB a b w i).map (V (!w))) (V w i))) = (([true, false] : List Bool).flatMap fun w => (List.range n).map fun i => fxB ((mvB a b w i).map (V (!w))) (V w i)).map PyData.bool := by
          simp [Function.comp_def]
        rw [ef, show ∀ l : List Bool, l.map PyData.bool = l.map fun x => PyData.bool (id x) from fun _ => rfl, all_map, R_some, thn_rt]
        refine R_retd.mpr ⟨?_, by simp⟩
        rw [all_flat]
        congr 2
        rw [Bool.eq_iff_iff, decide_eq_true_eq, List.all_eq_true]
        constructor
        · intro hall
          refine rks_congr (fix_uniq ok (fun w i hi => ?_) fun w i hi => rk_fix ok hi)
          have := List.all_eq_true.mp (hall w (by cases w <;> simp)) i (List.mem_range.mpr hi)
          exact (@decide_eq_true_iff _ (Classical.propDecidable _)).mp this
        · intro e w _
          rw [List.all_eq_true]
          intro i hi
          have hi := List.mem_range.mp hi
          have hV := rks_inj e
          have hm : (mvB a b w i).map (V (!w)) = (mvB a b w i).map (rkB n (mvB a b) (!w)) := List.map_congr_left fun j hj => hV _ j (ok.lt w i hi j hj)
          rw [hm, hV w i hi]
          exact (@decide_eq_true_iff _ (Classical.propDecidable _)).mpr (rk_fix ok hi)
  · have hne : x ≠ rksD n (rkB n (mvB a b)) := fun e => htup ⟨_, e, rfl⟩
    cases x with
    | tuple xs =>
      have hl : xs.length ≠ 2 := fun e => htup ⟨xs, rfl, e⟩
      simp only [Rs_nil, R_call, R_cons, R_nil, R_Var, R_C, R_bin, R_cmp, R_tcmp, R_tOr, R_tAnd, R_tNot, R_tVal, R_tTrue, R_ite, R_eAnd, R_eOr, R_eNot, R_neg, R_tup, R_isi, R_some, Rc_some, N.v_eq, N.v_ne, N.v_lt, N.v_le, N.v_gt, N.v_ge, N.v_add, N.v_sub, N.v_iadd, N.v_xor, N.v_int, N.tru_b, N.pd_d, N.data_nil, N.data_cons, N.len_t, N.v_tupT, N.g_name, N.isNone_n, N.isNone_t, N.isNone_i, N.v_isN, N.v_isNn, N.v_eqB, N.v_neB, List.set_cons_succ, List.set_cons_zero, List.getElem?_cons_succ, List.getElem?_cons_zero, Bool.not_true, Bool.not_false, Bool.false_eq_true, Bool.true_eq_false, eq_self, true_implies, false_implies, true_and, and_true, decide_true, decide_false, Int.zero_add, N.R_sl, N.R_it, R_oNone, R_oSome, wipeN, N.R_lst, N.R_mkF, N.R_mkT, N.R_meth, N.v_addT, Ri_rng1, Ri_rng2, Ri_seq, show TyT.tup.of (.tuple xs) = true from rfl, show decide (((xs.length : Nat) : Int) = 2) = false from decide_eq_false (by omega)]
      rw [Rs_seq, Rs_ret]
      simp only [Rs_nil, R_call, R_cons, R_nil, R_Var, R_C, R_bin, R_cmp, R_tcmp, R_tOr, R_tAnd, R_tNot, R_tVal, R_tTrue, R_ite, R_eAnd, R_eOr, R_eNot, R_neg, R_tup, R_isi, R_some, Rc_some, N.v_eq, N.v_ne, N.v_lt, N.v_le, N.v_gt, N.v_ge, N.v_add, N.v_sub, N.v_iadd, N.v_xor, N.v_int, N.tru_b, N.pd_d, N.data_nil, N.data_cons, N.len_t, N.v_tupT, N.g_name, N.isNone_n, N.isNone_t, N.isNone_i, N.v_isN, N.v_isNn, N.v_eqB, N.v_neB, List.set_cons_succ, List.set_cons_zero, List.getElem?_cons_succ, List.getElem?_cons_zero, Bool.not_true, Bool.not_false, Bool.false_eq_true, Bool.true_eq_false, eq_self, true_implies, false_implies, true_and, and_true, decide_true, decide_false, Int.zero_add, N.R_sl, N.R_it, R_oNone, R_oSome, wipeN, N.R_lst, N.R_mkF, N.R_mkT, N.R_meth, N.v_addT, Ri_rng1, Ri_rng2, Ri_seq]
      rw [thn_rt, thn_rt]
      exact no hne
    | _ =>
      simp only [Rs_nil, R_call, R_cons, R_nil, R_Var, R_C, R_bin, R_cmp, R_tcmp, R_tOr, R_tAnd, R_tNot, R_tVal, R_tTrue, R_ite, R_eAnd, R_eOr, R_eNot, R_neg, R_tup, R_isi, R_some, Rc_some, N.v_eq, N.v_ne, N.v_lt, N.v_le, N.v_gt, N.v_ge, N.v_add, N.v_sub, N.v_iadd, N.v_xor, N.v_int, N.tru_b, N.pd_d, N.data_nil, N.data_cons, N.len_t, N.v_tupT, N.g_name, N.isNone_n, N.isNone_t, N.isNone_i, N.v_isN, N.v_isNn, N.v_eqB, N.v_neB, List.set_cons_succ, List.set_cons_zero, List.getElem?_cons_succ, List.getElem?_cons_zero, Bool.not_true, Bool.not_false, Bool.false_eq_true, Bool.true_eq_false, eq_self, true_implies, false_implies, true_and, and_true, decide_true, decide_false, Int.zero_add, N.R_sl, N.R_it, R_oNone, R_oSome, wipeN, N.R_lst, N.R_mkF, N.R_mkT, N.R_meth, N.v_addT, Ri_rng1, Ri_rng2, Ri_seq, show ∀ z, TyT.tup.of (.int z) = false from fun _ => rfl, show ∀ z, TyT.tup.of (.str z) = false from fun _ => rfl, show ∀ z, TyT.tup.of (.bool z) = false from fun _ => rfl, show TyT.tup.of .none = false from rfl, show ∀ z, TyT.tup.of (.list z) = false from fun _ => rfl, show ∀ z, TyT.tup.of (.dict z) = false from fun _ => rfl]
      rw [Rs_seq, Rs_ret]
      simp only [Rs_nil, R_call, R_cons, R_nil, R_Var, R_C, R_bin, R_cmp, R_tcmp, R_tOr, R_tAnd, R_tNot, R_tVal, R_tTrue, R_ite, R_eAnd, R_eOr, R_eNot, R_neg, R_tup, R_isi, R_some, Rc_some, N.v_eq, N.v_ne, N.v_lt, N.v_le, N.v_gt, N.v_ge, N.v_add, N.v_sub, N.v_iadd, N.v_xor, N.v_int, N.tru_b, N.pd_d, N.data_nil, N.data_cons, N.len_t, N.v_tupT, N.g_name, N.isNone_n, N.isNone_t, N.isNone_i, N.v_isN, N.v_isNn, N.v_eqB, N.v_neB, List.set_cons_succ, List.set_cons_zero, List.getElem?_cons_succ, List.getElem?_cons_zero, Bool.not_true, Bool.not_false, Bool.false_eq_true, Bool.true_eq_false, eq_self, true_implies, false_implies, true_and, and_true, decide_true, decide_false, Int.zero_add, N.R_sl, N.R_it, R_oNone, R_oSome, wipeN, N.R_lst, N.R_mkF, N.R_mkT, N.R_meth, N.v_addT, Ri_rng1, Ri_rng2, Ri_seq]
      rw [thn_rt, thn_rt]
      exact no hne
end
end N

namespace N
open PySem L2 PyProof.Rows

def bnt (B : Nat) : Nat → PyData → Prop
  | 0, _ => False
  | n + 1, .tuple xs => xs.length ≤ B ∧ ∀ x ∈ xs, bnt B n x
  | _ + 1, .int i => i.natAbs < 2 ^ 256
  | _ + 1, .none => True
  | _ + 1, .bool _ => True
  | _ + 1, _ => False
theorem bnt_wd {B : Nat} : ∀ {k : Nat} {x : PyData}, bnt B k x → wd B k x
  | k + 1, .tuple xs, h => ⟨h.1, fun x hx => bnt_wd (h.2 x hx)⟩
  | k + 1, .int _, _ => trivial
  | k + 1, .str _, h => h.elim
  | k + 1, .none, _ => trivial
  | k + 1, .bool _, _ => trivial
  | k + 1, .list _, h => h.elim
  | k + 1, .dict _, h => h.elim
theorem wd_sok {B : Nat} (hB : B ≤ 1000000) : ∀ {k : Nat} {x : PyData}, wd B k x → sok k x
  | k + 1, .tuple xs, h => ⟨Nat.le_trans h.1 hB, fun x hx => wd_sok hB (h.2 x hx)⟩
  | k + 1, .int _, _ => by unfold sok; trivial
  | k + 1, .str _, _ => by unfold sok; trivial
  | k + 1, .none, _ => by unfold sok; trivial
  | k + 1, .bool _, _ => by unfold sok; trivial
  | k + 1, .list _, h => h.elim
  | k + 1, .dict _, h => h.elim
theorem pickN {l : List PyData} {P : PyData → Prop} (h : ∀ y ∈ l, P y) {d : Nat} (hd : d < l.length) (s : Sto) : ∃ y, P y ∧ itF s (.d (.list l)) (.d (.int (d : Nat))) = some (.d y) :=
  ⟨l[d], h _ (List.getElem_mem hd), itF_tl (atI_nat (List.getElem?_eq_getElem hd))⟩
theorem Rc_pickN {l : List PyData} {P : PyData → Prop} {d : Nat} {s : Sto} {K : D → Prop} (h : ∀ y ∈ l, P y) (hd : d < l.length) (q : ∀ y, P y → K (.d y)) : Rc (itF s (.d (.list l)) (.d (.int (d : Nat)))) K := by
  obtain ⟨y, hy, e⟩ := pickN h hd s
  rw [e, Rc_some]
  exact q y hy
theorem str_intN {j : Int} (h : j.natAbs < 2 ^ 256) (s : Sto) : bStr s [.d (.int j)] = some (.d (.str (toString j)), s) := by
  unfold bStr f1
  simp only []
  rw [if_pos (by have := log2_small h; omega)]
theorem cut_memN {α : Type} {xs : List α} {lo hi : Option Int} {z : α} (h : z ∈ N.cutD xs lo hi) : z ∈ xs := by
  unfold N.cutD at h
  exact List.mem_of_mem_drop (List.mem_of_mem_take h)
theorem lawbent_ok {rest : Sto} (f : Flat rest) {B : Nat} (hB : 2 ≤ B) (hB2 : B ≤ 1000) : ∀ (k K : Nat) (x : PyData) (s : Sto), k ≤ K → BS rest s → bnt B k x → R (m__law_bent K s [.r 1, .d x]) fun d s' => ∃ y, d = .d y ∧ wd (B + 2) (k + 2) y ∧ BS rest s'
  | 0, _, _, _, _, _, h => h.elim
  | k + 1, 0, _, _, h, _, _ => by omega
  | k + 1, K + 1, x, s, hk, t, hx => by
    have fin : ∀ {y : PyData} {s' : Sto}, wd (B + 2) (k + 3) y → BS rest s' → R (ret false s (.d y) s') fun d s' => ∃ y, d = .d y ∧ wd (B + 2) (k + 1 + 2) y ∧ BS rest s' := fun {y s'} h1 h2 => by
      rw [R_retd, trim_wf' (by rw [h2.len, t.len]) (h2.wf f)]
      exact ⟨y, rfl, h1, h2⟩
    unfold m__law_bent b__law_bent
    rw [R_fn]
    refine ⟨rfl, ?_⟩
    simp only [List.map_cons, List.map_nil, List.cons_append, List.nil_append, List.length_cons, List.length_nil, Nat.reduceSub, Nat.reduceAdd, List.replicate_succ, List.replicate_zero]
    cases x with
    | tuple xs =>
      have hxl : xs.length ≤ B := hx.1
      have wi : ∀ z ∈ xs, wd (B + 2) k z := fun z hz => wd_up (by omega) (Nat.le_refl _) (bnt_wd (hx.2 z hz))
      have wi2 : ∀ z ∈ xs, wd (B + 2) (k + 2) z := fun z hz => wd_up (Nat.le_refl _) (by omega) (wi z hz)
      rw [Rs_seq]
      refine Rs.imp (Q := fun fl e2 s2 => (fl = .nx ∧ (∃ o2, e2 = [some (.r 1), some (.d (.tuple xs)), o2, none]) ∧ BS rest s2) ∨ (∃ y, fl = .rt (.d y) ∧ wd (B + 2) (k + 3) y ∧ BS rest s2)) ?_ ?_
      · rw [Rs_if]
        simp only [Rs_nil, R_call, R_cons, R_nil, R_Var, R_C, R_bin, R_cmp, R_tcmp, R_tOr, R_tAnd, R_tNot, R_tVal, R_tTrue, R_ite, R_eAnd, R_eOr, R_eNot, R_neg, R_tup, R_isi, R_some, Rc_some, N.v_eq, N.v_ne, N.v_lt, N.v_le, N.v_gt, N.v_ge, N.v_add, N.v_sub, N.v_iadd, N.v_xor, N.v_int, N.tru_b, N.pd_d, N.data_nil, N.data_cons, N.len_t, N.v_tupT, N.g_name, N.isNone_n, N.isNone_t, N.isNone_i, N.v_isN, N.v_isNn, N.v_eqB, N.v_neB, List.set_cons_succ, List.set_cons_zero, List.getElem?_cons_succ, List.getElem?_cons_zero, Bool.not_true, Bool.not_false, Bool.false_eq_true, Bool.true_eq_false, eq_self, true_implies, false_implies, true_and, and_true, decide_true, decide_false, Int.zero_add, N.R_sl, N.R_it, R_oNone, R_oSome, wipeN, N.R_lst, N.R_mkF, N.R_mkT, N.R_meth, N.v_addT, Ri_rng1, Ri_rng2, Ri_seq, show TyT.tup.of (.tuple xs) = true from rfl]
        refine ⟨fun h => ?_, fun h => ?_⟩
        · have h := of_decide_eq_true h
          refine R_draw t (m := 5) (by decide) (by decide) fun d5 s1 hd5 t1 => ?_
          simp only [Rs_nil, R_call, R_cons, R_nil, R_Var, R_C, R_bin, R_cmp, R_tcmp, R_tOr, R_tAnd, R_tNot, R_tVal, R_tTrue, R_ite, R_eAnd, R_eOr, R_eNot, R_neg, R_tup, R_isi, R_some, Rc_some, N.v_eq, N.v_ne, N.v_lt, N.v_le, N.v_gt, N.v_ge, N.v_add, N.v_sub, N.v_iadd, N.v_xor, N.v_int, N.tru_b, N.pd_d, N.data_nil, N.data_cons, N.len_t, N.v_tupT, N.g_name, N.isNone_n, N.isNone_t, N.isNone_i, N.v_isN, N.v_isNn, N.v_eqB, N.v_neB, List.set_cons_succ, List.set_cons_zero, List.getElem?_cons_succ, List.getElem?_cons_zero, Bool.not_true, Bool.not_false, Bool.false_eq_true, Bool.true_eq_false, eq_self, true_implies, false_implies, true_and, and_true, decide_true, decide_false, Int.zero_add, N.R_sl, N.R_it, R_oNone, R_oSome, wipeN, N.R_lst, N.R_mkF, N.R_mkT, N.R_meth, N.v_addT, Ri_rng1, Ri_rng2, Ri_seq]
          refine ⟨fun h5 => ?_, fun h5 => .inl ⟨⟨none, rfl⟩, t1⟩⟩
          rw [Rs_seq, Rs_set]
          simp only [Rs_nil, R_call, R_cons, R_nil, R_Var, R_C, R_bin, R_cmp, R_tcmp, R_tOr, R_tAnd, R_tNot, R_tVal, R_tTrue, R_ite, R_eAnd, R_eOr, R_eNot, R_neg, R_tup, R_isi, R_some, Rc_some, N.v_eq, N.v_ne, N.v_lt, N.v_le, N.v_gt, N.v_ge, N.v_add, N.v_sub, N.v_iadd, N.v_xor, N.v_int, N.tru_b, N.pd_d, N.data_nil, N.data_cons, N.len_t, N.v_tupT, N.g_name, N.isNone_n, N.isNone_t, N.isNone_i, N.v_isN, N.v_isNn, N.v_eqB, N.v_neB, List.set_cons_succ, List.set_cons_zero, List.getElem?_cons_succ, List.getElem?_cons_zero, Bool.not_true, Bool.not_false, Bool.false_eq_true, Bool.true_eq_false, eq_self, true_implies, false_implies, true_and, and_true, decide_true, decide_false, Int.zero_add, N.R_sl, N.R_it, R_oNone, R_oSome, wipeN, N.R_lst, N.R_mkF, N.R_mkT, N.R_meth, N.v_addT, Ri_rng1, Ri_rng2, Ri_seq]
          refine R_draw t1 (m := xs.length) (by omega) (Nat.lt_of_le_of_lt (show xs.length ≤ 1000 by omega) (by decide)) fun a s2 ha t2 => ?_
          rw [thn_nx, Rs_seq, Rs_ret]
          have it : itF s2 (.d (.tuple xs)) (.d (.int (a : Nat))) = some (.d xs[a]) := itF_t (atI_nat (List.getElem?_eq_getElem ha))
          have c1 : N.cutD xs none (some (a : Int)) = xs.take a := cut_lo (by omega)
          have c2 : N.cutD xs (some ((a : Int) + 1)) none = xs.drop (a + 1) := by
            have := cut_hi (xs := xs) (i := a + 1) (by omega)
            exact_mod_cast this
          simp only [Rs_nil, R_call, R_cons, R_nil, R_Var, R_C, R_bin, R_cmp, R_tcmp, R_tOr, R_tAnd, R_tNot, R_tVal, R_tTrue, R_ite, R_eAnd, R_eOr, R_eNot, R_neg, R_tup, R_isi, R_some, Rc_some, N.v_eq, N.v_ne, N.v_lt, N.v_le, N.v_gt, N.v_ge, N.v_add, N.v_sub, N.v_iadd, N.v_xor, N.v_int, N.tru_b, N.pd_d, N.data_nil, N.data_cons, N.len_t, N.v_tupT, N.g_name, N.isNone_n, N.isNone_t, N.isNone_i, N.v_isN, N.v_isNn, N.v_eqB, N.v_neB, List.set_cons_succ, List.set_cons_zero, List.getElem?_cons_succ, List.getElem?_cons_zero, Bool.not_true, Bool.not_false, Bool.false_eq_true, Bool.true_eq_false, eq_self, true_implies, false_implies, true_and, and_true, decide_true, decide_false, Int.zero_add, N.R_sl, N.R_it, R_oNone, R_oSome, wipeN, N.R_lst, N.R_mkF, N.R_mkT, N.R_meth, N.v_addT, Ri_rng1, Ri_rng2, Ri_seq, it, c1, c2]
          refine R.imp (lawbent_ok f hB hB2 k K xs[a] s2 (by omega) t2 (hx.2 _ (List.getElem_mem ha))) fun d s4 hh => ?_
          obtain ⟨y, rfl, hy, t4⟩ := hh
          simp only [Rs_nil, R_call, R_cons, R_nil, R_Var, R_C, R_bin, R_cmp, R_tcmp, R_tOr, R_tAnd, R_tNot, R_tVal, R_tTrue, R_ite, R_eAnd, R_eOr, R_eNot, R_neg, R_tup, R_isi, R_some, Rc_some, N.v_eq, N.v_ne, N.v_lt, N.v_le, N.v_gt, N.v_ge, N.v_add, N.v_sub, N.v_iadd, N.v_xor, N.v_int, N.tru_b, N.pd_d, N.data_nil, N.data_cons, N.len_t, N.v_tupT, N.g_name, N.isNone_n, N.isNone_t, N.isNone_i, N.v_isN, N.v_isNn, N.v_eqB, N.v_neB, List.set_cons_succ, List.set_cons_zero, List.getElem?_cons_succ, List.getElem?_cons_zero, Bool.not_true, Bool.not_false, Bool.false_eq_true, Bool.true_eq_false, eq_self, true_implies, false_implies, true_and, and_true, decide_true, decide_false, Int.zero_add, N.R_sl, N.R_it, R_oNone, R_oSome, wipeN, N.R_lst, N.R_mkF, N.R_mkT, N.R_meth, N.v_addT, Ri_rng1, Ri_rng2, Ri_seq, c2]
          refine ⟨by simp [lim], by simp [lim]; omega, by simp [lim]; omega, ?_⟩
          rw [thn_rt]
          refine .inr ⟨_, rfl, ⟨by simp; omega, fun z hz => ?_⟩, t4⟩
          rcases List.mem_append.mp hz with hz | hz
          · rcases List.mem_append.mp hz with hz | hz
            · exact wi2 z (List.mem_of_mem_take hz)
            · rw [List.mem_singleton.mp hz]
              exact hy
          · exact wi2 z (List.mem_of_mem_drop hz)
        · exact .inl ⟨⟨none, rfl⟩, t⟩
      · rintro fl e2 s2 (⟨rfl, ⟨o2, rfl⟩, t2⟩ | ⟨y, rfl, hy, t2⟩)
        · rw [thn_nx, Rs_seq, Rs_set]
          simp only [Rs_nil, R_call, R_cons, R_nil, R_Var, R_C, R_bin, R_cmp, R_tcmp, R_tOr, R_tAnd, R_tNot, R_tVal, R_tTrue, R_ite, R_eAnd, R_eOr, R_eNot, R_neg, R_tup, R_isi, R_some, Rc_some, N.v_eq, N.v_ne, N.v_lt, N.v_le, N.v_gt, N.v_ge, N.v_add, N.v_sub, N.v_iadd, N.v_xor, N.v_int, N.tru_b, N.pd_d, N.data_nil, N.data_cons, N.len_t, N.v_tupT, N.g_name, N.isNone_n, N.isNone_t, N.isNone_i, N.v_isN, N.v_isNn, N.v_eqB, N.v_neB, List.set_cons_succ, List.set_cons_zero, List.getElem?_cons_succ, List.getElem?_cons_zero, Bool.not_true, Bool.not_false, Bool.false_eq_true, Bool.true_eq_false, eq_self, true_implies, false_implies, true_and, and_true, decide_true, decide_false, Int.zero_add, N.R_sl, N.R_it, R_oNone, R_oSome, wipeN, N.R_lst, N.R_mkF, N.R_mkT, N.R_meth, N.v_addT, Ri_rng1, Ri_rng2, Ri_seq]
          refine R_draw t2 (m := 8) (by decide) (by decide) fun d s3 hd t3 => ?_
          rw [thn_nx, Rs_seq, Rs_if]
          simp only [Rs_nil, R_call, R_cons, R_nil, R_Var, R_C, R_bin, R_cmp, R_tcmp, R_tOr, R_tAnd, R_tNot, R_tVal, R_tTrue, R_ite, R_eAnd, R_eOr, R_eNot, R_neg, R_tup, R_isi, R_some, Rc_some, N.v_eq, N.v_ne, N.v_lt, N.v_le, N.v_gt, N.v_ge, N.v_add, N.v_sub, N.v_iadd, N.v_xor, N.v_int, N.tru_b, N.pd_d, N.data_nil, N.data_cons, N.len_t, N.v_tupT, N.g_name, N.isNone_n, N.isNone_t, N.isNone_i, N.v_isN, N.v_isNn, N.v_eqB, N.v_neB, List.set_cons_succ, List.set_cons_zero, List.getElem?_cons_succ, List.getElem?_cons_zero, Bool.not_true, Bool.not_false, Bool.false_eq_true, Bool.true_eq_false, eq_self, true_implies, false_implies, true_and, and_true, decide_true, decide_false, Int.zero_add, N.R_sl, N.R_it, R_oNone, R_oSome, wipeN, N.R_lst, N.R_mkF, N.R_mkT, N.R_meth, N.v_addT, Ri_rng1, Ri_rng2, Ri_seq, show TyT.tup.of (.tuple xs) = true from rfl]
          rw [Rs_seq, Rs_ret]
          simp only [Rs_nil, R_call, R_cons, R_nil, R_Var, R_C, R_bin, R_cmp, R_tcmp, R_tOr, R_tAnd, R_tNot, R_tVal, R_tTrue, R_ite, R_eAnd, R_eOr, R_eNot, R_neg, R_tup, R_isi, R_some, Rc_some, N.v_eq, N.v_ne, N.v_lt, N.v_le, N.v_gt, N.v_ge, N.v_add, N.v_sub, N.v_iadd, N.v_xor, N.v_int, N.tru_b, N.pd_d, N.data_nil, N.data_cons, N.len_t, N.v_tupT, N.g_name, N.isNone_n, N.isNone_t, N.isNone_i, N.v_isN, N.v_isNn, N.v_eqB, N.v_neB, List.set_cons_succ, List.set_cons_zero, List.getElem?_cons_succ, List.getElem?_cons_zero, Bool.not_true, Bool.not_false, Bool.false_eq_true, Bool.true_eq_false, eq_self, true_implies, false_implies, true_and, and_true, decide_true, decide_false, Int.zero_add, N.R_sl, N.R_it, R_oNone, R_oSome, wipeN, N.R_lst, N.R_mkF, N.R_mkT, N.R_meth, N.v_addT, Ri_rng1, Ri_rng2, Ri_seq, R_rev]
          have k1 := cutD_len xs none (some 1)
          have k2 := cutD_len xs (some 1) none
          have k3 := cutD_len xs none (some (-1))
          have k4 : (N.cutD xs none (some 1)).length ≤ 1 := by
            unfold N.cutD
            have e : HT.sIx xs.length xs.length (some 1) = min 1 xs.length := by
              unfold HT.sIx
              simp only []
              first | (rw [if_neg (by omega)]; omega) | omega
            rw [HT.sIx_none, e, List.length_take]
            omega
          refine ⟨by simp only [lim]; omega, by simp [lim], by simp only [lim, List.length_cons, List.length_nil]; omega, by simp only [lim]; omega, by simp [lim], ?_⟩
          refine Rc_pickN (P := wd (B + 2) (k + 3)) (fun y hy => ?_) hd fun y hy => ?_
          · have ap : ∀ ys : List PyData, ys.length ≤ B + 2 → (∀ z ∈ ys, wd (B + 2) (k + 2) z) → wd (B + 2) (k + 3) (.tuple ys) := fun ys h1 h2 => ⟨h1, h2⟩
            have wc : ∀ {lo hi : Option Int}, ∀ z ∈ N.cutD xs lo hi, wd (B + 2) (k + 2) z := fun z hz => wi2 z (cut_memN hz)
            simp only [List.mem_cons, List.not_mem_nil, or_false] at hy
            rcases hy with rfl | rfl | rfl | rfl | rfl | rfl | rfl | rfl
            · exact ap _ (by rw [List.length_append]; omega) fun z hz => (List.mem_append.mp hz).elim (wi2 z) (wc z)
            · exact ap _ (by omega) wc
            · exact ap _ (by rw [List.length_reverse]; omega) fun z hz => wi2 z (List.mem_reverse.mp hz)
            · exact ap _ (by simp; omega) fun z hz => (List.mem_append.mp hz).elim (wi2 z) fun h => by rw [List.mem_singleton.mp h]; trivial
            · exact ap _ (by rw [List.length_append]; omega) fun z hz => (List.mem_append.mp hz).elim (wc z) (wi2 z)
            · exact ap _ (by omega) wc
            · trivial
            · exact ap _ (by omega) wc
          · rw [thn_rt, thn_rt]
            exact fin hy t3
        · rw [thn_rt]
          exact fin hy t2
    | int j =>
      rw [Rs_seq, Rs_if]
      simp only [Rs_nil, R_call, R_cons, R_nil, R_Var, R_C, R_bin, R_cmp, R_tcmp, R_tOr, R_tAnd, R_tNot, R_tVal, R_tTrue, R_ite, R_eAnd, R_eOr, R_eNot, R_neg, R_tup, R_isi, R_some, Rc_some, N.v_eq, N.v_ne, N.v_lt, N.v_le, N.v_gt, N.v_ge, N.v_add, N.v_sub, N.v_iadd, N.v_xor, N.v_int, N.tru_b, N.pd_d, N.data_nil, N.data_cons, N.len_t, N.v_tupT, N.g_name, N.isNone_n, N.isNone_t, N.isNone_i, N.v_isN, N.v_isNn, N.v_eqB, N.v_neB, List.set_cons_succ, List.set_cons_zero, List.getElem?_cons_succ, List.getElem?_cons_zero, Bool.not_true, Bool.not_false, Bool.false_eq_true, Bool.true_eq_false, eq_self, true_implies, false_implies, true_and, and_true, decide_true, decide_false, Int.zero_add, N.R_sl, N.R_it, R_oNone, R_oSome, wipeN, N.R_lst, N.R_mkF, N.R_mkT, N.R_meth, N.v_addT, Ri_rng1, Ri_rng2, Ri_seq, show TyT.tup.of (.int j) = false from rfl]
      rw [thn_nx, Rs_seq, Rs_set]
      simp only [Rs_nil, R_call, R_cons, R_nil, R_Var, R_C, R_bin, R_cmp, R_tcmp, R_tOr, R_tAnd, R_tNot, R_tVal, R_tTrue, R_ite, R_eAnd, R_eOr, R_eNot, R_neg, R_tup, R_isi, R_some, Rc_some, N.v_eq, N.v_ne, N.v_lt, N.v_le, N.v_gt, N.v_ge, N.v_add, N.v_sub, N.v_iadd, N.v_xor, N.v_int, N.tru_b, N.pd_d, N.data_nil, N.data_cons, N.len_t, N.v_tupT, N.g_name, N.isNone_n, N.isNone_t, N.isNone_i, N.v_isN, N.v_isNn, N.v_eqB, N.v_neB, List.set_cons_succ, List.set_cons_zero, List.getElem?_cons_succ, List.getElem?_cons_zero, Bool.not_true, Bool.not_false, Bool.false_eq_true, Bool.true_eq_false, eq_self, true_implies, false_implies, true_and, and_true, decide_true, decide_false, Int.zero_add, N.R_sl, N.R_it, R_oNone, R_oSome, wipeN, N.R_lst, N.R_mkF, N.R_mkT, N.R_meth, N.v_addT, Ri_rng1, Ri_rng2, Ri_seq]
      refine R_draw t (m := 8) (by decide) (by decide) fun d s1 hd t1 => ?_
      rw [thn_nx, Rs_seq, Rs_if]
      simp only [Rs_nil, R_call, R_cons, R_nil, R_Var, R_C, R_bin, R_cmp, R_tcmp, R_tOr, R_tAnd, R_tNot, R_tVal, R_tTrue, R_ite, R_eAnd, R_eOr, R_eNot, R_neg, R_tup, R_isi, R_some, Rc_some, N.v_eq, N.v_ne, N.v_lt, N.v_le, N.v_gt, N.v_ge, N.v_add, N.v_sub, N.v_iadd, N.v_xor, N.v_int, N.tru_b, N.pd_d, N.data_nil, N.data_cons, N.len_t, N.v_tupT, N.g_name, N.isNone_n, N.isNone_t, N.isNone_i, N.v_isN, N.v_isNn, N.v_eqB, N.v_neB, List.set_cons_succ, List.set_cons_zero, List.getElem?_cons_succ, List.getElem?_cons_zero, Bool.not_true, Bool.not_false, Bool.false_eq_true, Bool.true_eq_false, eq_self, true_implies, false_implies, true_and, and_true, decide_true, decide_false, Int.zero_add, N.R_sl, N.R_it, R_oNone, R_oSome, wipeN, N.R_lst, N.R_mkF, N.R_mkT, N.R_meth, N.v_addT, Ri_rng1, Ri_rng2, Ri_seq, show TyT.tup.of (.int j) = false from rfl]
      rw [thn_nx, Rs_seq, Rs_if]
      simp only [Rs_nil, R_call, R_cons, R_nil, R_Var, R_C, R_bin, R_cmp, R_tcmp, R_tOr, R_tAnd, R_tNot, R_tVal, R_tTrue, R_ite, R_eAnd, R_eOr, R_eNot, R_neg, R_tup, R_isi, R_some, Rc_some, N.v_eq, N.v_ne, N.v_lt, N.v_le, N.v_gt, N.v_ge, N.v_add, N.v_sub, N.v_iadd, N.v_xor, N.v_int, N.tru_b, N.pd_d, N.data_nil, N.data_cons, N.len_t, N.v_tupT, N.g_name, N.isNone_n, N.isNone_t, N.isNone_i, N.v_isN, N.v_isNn, N.v_eqB, N.v_neB, List.set_cons_succ, List.set_cons_zero, List.getElem?_cons_succ, List.getElem?_cons_zero, Bool.not_true, Bool.not_false, Bool.false_eq_true, Bool.true_eq_false, eq_self, true_implies, false_implies, true_and, and_true, decide_true, decide_false, Int.zero_add, N.R_sl, N.R_it, R_oNone, R_oSome, wipeN, N.R_lst, N.R_mkF, N.R_mkT, N.R_meth, N.v_addT, Ri_rng1, Ri_rng2, Ri_seq, show TyT.int.of (.int j) = true from rfl, show TyT.bl.of (.int j) = false from rfl]
      rw [Rs_seq, Rs_ret]
      simp only [Rs_nil, R_call, R_cons, R_nil, R_Var, R_C, R_bin, R_cmp, R_tcmp, R_tOr, R_tAnd, R_tNot, R_tVal, R_tTrue, R_ite, R_eAnd, R_eOr, R_eNot, R_neg, R_tup, R_isi, R_some, Rc_some, N.v_eq, N.v_ne, N.v_lt, N.v_le, N.v_gt, N.v_ge, N.v_add, N.v_sub, N.v_iadd, N.v_xor, N.v_int, N.tru_b, N.pd_d, N.data_nil, N.data_cons, N.len_t, N.v_tupT, N.g_name, N.isNone_n, N.isNone_t, N.isNone_i, N.v_isN, N.v_isNn, N.v_eqB, N.v_neB, List.set_cons_succ, List.set_cons_zero, List.getElem?_cons_succ, List.getElem?_cons_zero, Bool.not_true, Bool.not_false, Bool.false_eq_true, Bool.true_eq_false, eq_self, true_implies, false_implies, true_and, and_true, decide_true, decide_false, Int.zero_add, N.R_sl, N.R_it, R_oNone, R_oSome, wipeN, N.R_lst, N.R_mkF, N.R_mkT, N.R_meth, N.v_addT, Ri_rng1, Ri_rng2, Ri_seq, str_intN hx]
      refine ⟨by simp [lim], by simp [lim], ?_⟩
      refine Rc_pickN (P := wd (B + 2) (k + 3)) (fun y hy => ?_) hd fun y hy => ?_
      · simp only [List.mem_cons, List.not_mem_nil, or_false] at hy
        rcases hy with rfl | rfl | rfl | rfl | rfl | rfl | rfl | rfl
        all_goals simp [wd]
      · rw [thn_rt, thn_rt]
        exact fin hy t1
    | str z => exact hx.elim
    | none =>
      rw [Rs_seq, Rs_if]
      simp only [Rs_nil, R_call, R_cons, R_nil, R_Var, R_C, R_bin, R_cmp, R_tcmp, R_tOr, R_tAnd, R_tNot, R_tVal, R_tTrue, R_ite, R_eAnd, R_eOr, R_eNot, R_neg, R_tup, R_isi, R_some, Rc_some, N.v_eq, N.v_ne, N.v_lt, N.v_le, N.v_gt, N.v_ge, N.v_add, N.v_sub, N.v_iadd, N.v_xor, N.v_int, N.tru_b, N.pd_d, N.data_nil, N.data_cons, N.len_t, N.v_tupT, N.g_name, N.isNone_n, N.isNone_t, N.isNone_i, N.v_isN, N.v_isNn, N.v_eqB, N.v_neB, List.set_cons_succ, List.set_cons_zero, List.getElem?_cons_succ, List.getElem?_cons_zero, Bool.not_true, Bool.not_false, Bool.false_eq_true, Bool.true_eq_false, eq_self, true_implies, false_implies, true_and, and_true, decide_true, decide_false, Int.zero_add, N.R_sl, N.R_it, R_oNone, R_oSome, wipeN, N.R_lst, N.R_mkF, N.R_mkT, N.R_meth, N.v_addT, Ri_rng1, Ri_rng2, Ri_seq, show TyT.tup.of .none = false from rfl]
      rw [thn_nx, Rs_seq, Rs_set]
      simp only [Rs_nil, R_call, R_cons, R_nil, R_Var, R_C, R_bin, R_cmp, R_tcmp, R_tOr, R_tAnd, R_tNot, R_tVal, R_tTrue, R_ite, R_eAnd, R_eOr, R_eNot, R_neg, R_tup, R_isi, R_some, Rc_some, N.v_eq, N.v_ne, N.v_lt, N.v_le, N.v_gt, N.v_ge, N.v_add, N.v_sub, N.v_iadd, N.v_xor, N.v_int, N.tru_b, N.pd_d, N.data_nil, N.data_cons, N.len_t, N.v_tupT, N.g_name, N.isNone_n, N.isNone_t, N.isNone_i, N.v_isN, N.v_isNn, N.v_eqB, N.v_neB, List.set_cons_succ, List.set_cons_zero, List.getElem?_cons_succ, List.getElem?_cons_zero, Bool.not_true, Bool.not_false, Bool.false_eq_true, Bool.true_eq_false, eq_self, true_implies, false_implies, true_and, and_true, decide_true, decide_false, Int.zero_add, N.R_sl, N.R_it, R_oNone, R_oSome, wipeN, N.R_lst, N.R_mkF, N.R_mkT, N.R_meth, N.v_addT, Ri_rng1, Ri_rng2, Ri_seq]
      refine R_draw t (m := 8) (by decide) (by decide) fun d s1 hd t1 => ?_
      rw [thn_nx, Rs_seq, Rs_if]
      simp only [Rs_nil, R_call, R_cons, R_nil, R_Var, R_C, R_bin, R_cmp, R_tcmp, R_tOr, R_tAnd, R_tNot, R_tVal, R_tTrue, R_ite, R_eAnd, R_eOr, R_eNot, R_neg, R_tup, R_isi, R_some, Rc_some, N.v_eq, N.v_ne, N.v_lt, N.v_le, N.v_gt, N.v_ge, N.v_add, N.v_sub, N.v_iadd, N.v_xor, N.v_int, N.tru_b, N.pd_d, N.data_nil, N.data_cons, N.len_t, N.v_tupT, N.g_name, N.isNone_n, N.isNone_t, N.isNone_i, N.v_isN, N.v_isNn, N.v_eqB, N.v_neB, List.set_cons_succ, List.set_cons_zero, List.getElem?_cons_succ, List.getElem?_cons_zero, Bool.not_true, Bool.not_false, Bool.false_eq_true, Bool.true_eq_false, eq_self, true_implies, false_implies, true_and, and_true, decide_true, decide_false, Int.zero_add, N.R_sl, N.R_it, R_oNone, R_oSome, wipeN, N.R_lst, N.R_mkF, N.R_mkT, N.R_meth, N.v_addT, Ri_rng1, Ri_rng2, Ri_seq, show TyT.tup.of .none = false from rfl]
      rw [thn_nx, Rs_seq, Rs_if]
      simp only [Rs_nil, R_call, R_cons, R_nil, R_Var, R_C, R_bin, R_cmp, R_tcmp, R_tOr, R_tAnd, R_tNot, R_tVal, R_tTrue, R_ite, R_eAnd, R_eOr, R_eNot, R_neg, R_tup, R_isi, R_some, Rc_some, N.v_eq, N.v_ne, N.v_lt, N.v_le, N.v_gt, N.v_ge, N.v_add, N.v_sub, N.v_iadd, N.v_xor, N.v_int, N.tru_b, N.pd_d, N.data_nil, N.data_cons, N.len_t, N.v_tupT, N.g_name, N.isNone_n, N.isNone_t, N.isNone_i, N.v_isN, N.v_isNn, N.v_eqB, N.v_neB, List.set_cons_succ, List.set_cons_zero, List.getElem?_cons_succ, List.getElem?_cons_zero, Bool.not_true, Bool.not_false, Bool.false_eq_true, Bool.true_eq_false, eq_self, true_implies, false_implies, true_and, and_true, decide_true, decide_false, Int.zero_add, N.R_sl, N.R_it, R_oNone, R_oSome, wipeN, N.R_lst, N.R_mkF, N.R_mkT, N.R_meth, N.v_addT, Ri_rng1, Ri_rng2, Ri_seq, show TyT.int.of .none = false from rfl, show TyT.bl.of .none = false from rfl]
      rw [thn_nx, Rs_seq, Rs_if]
      simp only [Rs_nil, R_call, R_cons, R_nil, R_Var, R_C, R_bin, R_cmp, R_tcmp, R_tOr, R_tAnd, R_tNot, R_tVal, R_tTrue, R_ite, R_eAnd, R_eOr, R_eNot, R_neg, R_tup, R_isi, R_some, Rc_some, N.v_eq, N.v_ne, N.v_lt, N.v_le, N.v_gt, N.v_ge, N.v_add, N.v_sub, N.v_iadd, N.v_xor, N.v_int, N.tru_b, N.pd_d, N.data_nil, N.data_cons, N.len_t, N.v_tupT, N.g_name, N.isNone_n, N.isNone_t, N.isNone_i, N.v_isN, N.v_isNn, N.v_eqB, N.v_neB, List.set_cons_succ, List.set_cons_zero, List.getElem?_cons_succ, List.getElem?_cons_zero, Bool.not_true, Bool.not_false, Bool.false_eq_true, Bool.true_eq_false, eq_self, true_implies, false_implies, true_and, and_true, decide_true, decide_false, Int.zero_add, N.R_sl, N.R_it, R_oNone, R_oSome, wipeN, N.R_lst, N.R_mkF, N.R_mkT, N.R_meth, N.v_addT, Ri_rng1, Ri_rng2, Ri_seq, show TyT.str.of .none = false from rfl]
      rw [thn_nx, Rs_seq, Rs_ret]
      simp only [Rs_nil, R_call, R_cons, R_nil, R_Var, R_C, R_bin, R_cmp, R_tcmp, R_tOr, R_tAnd, R_tNot, R_tVal, R_tTrue, R_ite, R_eAnd, R_eOr, R_eNot, R_neg, R_tup, R_isi, R_some, Rc_some, N.v_eq, N.v_ne, N.v_lt, N.v_le, N.v_gt, N.v_ge, N.v_add, N.v_sub, N.v_iadd, N.v_xor, N.v_int, N.tru_b, N.pd_d, N.data_nil, N.data_cons, N.len_t, N.v_tupT, N.g_name, N.isNone_n, N.isNone_t, N.isNone_i, N.v_isN, N.v_isNn, N.v_eqB, N.v_neB, List.set_cons_succ, List.set_cons_zero, List.getElem?_cons_succ, List.getElem?_cons_zero, Bool.not_true, Bool.not_false, Bool.false_eq_true, Bool.true_eq_false, eq_self, true_implies, false_implies, true_and, and_true, decide_true, decide_false, Int.zero_add, N.R_sl, N.R_it, R_oNone, R_oSome, wipeN, N.R_lst, N.R_mkF, N.R_mkT, N.R_meth, N.v_addT, Ri_rng1, Ri_rng2, Ri_seq]
      refine ⟨by simp [lim], by simp [lim], ?_⟩
      refine Rc_pickN (P := wd (B + 2) (k + 3)) (fun y hy => ?_) hd fun y hy => ?_
      · simp only [List.mem_cons, List.not_mem_nil, or_false] at hy
        rcases hy with rfl | rfl | rfl | rfl | rfl | rfl | rfl | rfl
        all_goals simp [wd]
      · rw [thn_rt]
        exact fin hy t1
    | bool z =>
      rw [Rs_seq, Rs_if]
      simp only [Rs_nil, R_call, R_cons, R_nil, R_Var, R_C, R_bin, R_cmp, R_tcmp, R_tOr, R_tAnd, R_tNot, R_tVal, R_tTrue, R_ite, R_eAnd, R_eOr, R_eNot, R_neg, R_tup, R_isi, R_some, Rc_some, N.v_eq, N.v_ne, N.v_lt, N.v_le, N.v_gt, N.v_ge, N.v_add, N.v_sub, N.v_iadd, N.v_xor, N.v_int, N.tru_b, N.pd_d, N.data_nil, N.data_cons, N.len_t, N.v_tupT, N.g_name, N.isNone_n, N.isNone_t, N.isNone_i, N.v_isN, N.v_isNn, N.v_eqB, N.v_neB, List.set_cons_succ, List.set_cons_zero, List.getElem?_cons_succ, List.getElem?_cons_zero, Bool.not_true, Bool.not_false, Bool.false_eq_true, Bool.true_eq_false, eq_self, true_implies, false_implies, true_and, and_true, decide_true, decide_false, Int.zero_add, N.R_sl, N.R_it, R_oNone, R_oSome, wipeN, N.R_lst, N.R_mkF, N.R_mkT, N.R_meth, N.v_addT, Ri_rng1, Ri_rng2, Ri_seq, show TyT.tup.of (.bool z) = false from rfl]
      rw [thn_nx, Rs_seq, Rs_set]
      simp only [Rs_nil, R_call, R_cons, R_nil, R_Var, R_C, R_bin, R_cmp, R_tcmp, R_tOr, R_tAnd, R_tNot, R_tVal, R_tTrue, R_ite, R_eAnd, R_eOr, R_eNot, R_neg, R_tup, R_isi, R_some, Rc_some, N.v_eq, N.v_ne, N.v_lt, N.v_le, N.v_gt, N.v_ge, N.v_add, N.v_sub, N.v_iadd, N.v_xor, N.v_int, N.tru_b, N.pd_d, N.data_nil, N.data_cons, N.len_t, N.v_tupT, N.g_name, N.isNone_n, N.isNone_t, N.isNone_i, N.v_isN, N.v_isNn, N.v_eqB, N.v_neB, List.set_cons_succ, List.set_cons_zero, List.getElem?_cons_succ, List.getElem?_cons_zero, Bool.not_true, Bool.not_false, Bool.false_eq_true, Bool.true_eq_false, eq_self, true_implies, false_implies, true_and, and_true, decide_true, decide_false, Int.zero_add, N.R_sl, N.R_it, R_oNone, R_oSome, wipeN, N.R_lst, N.R_mkF, N.R_mkT, N.R_meth, N.v_addT, Ri_rng1, Ri_rng2, Ri_seq]
      refine R_draw t (m := 8) (by decide) (by decide) fun d s1 hd t1 => ?_
      rw [thn_nx, Rs_seq, Rs_if]
      simp only [Rs_nil, R_call, R_cons, R_nil, R_Var, R_C, R_bin, R_cmp, R_tcmp, R_tOr, R_tAnd, R_tNot, R_tVal, R_tTrue, R_ite, R_eAnd, R_eOr, R_eNot, R_neg, R_tup, R_isi, R_some, Rc_some, N.v_eq, N.v_ne, N.v_lt, N.v_le, N.v_gt, N.v_ge, N.v_add, N.v_sub, N.v_iadd, N.v_xor, N.v_int, N.tru_b, N.pd_d, N.data_nil, N.data_cons, N.len_t, N.v_tupT, N.g_name, N.isNone_n, N.isNone_t, N.isNone_i, N.v_isN, N.v_isNn, N.v_eqB, N.v_neB, List.set_cons_succ, List.set_cons_zero, List.getElem?_cons_succ, List.getElem?_cons_zero, Bool.not_true, Bool.not_false, Bool.false_eq_true, Bool.true_eq_false, eq_self, true_implies, false_implies, true_and, and_true, decide_true, decide_false, Int.zero_add, N.R_sl, N.R_it, R_oNone, R_oSome, wipeN, N.R_lst, N.R_mkF, N.R_mkT, N.R_meth, N.v_addT, Ri_rng1, Ri_rng2, Ri_seq, show TyT.tup.of (.bool z) = false from rfl]
      rw [thn_nx, Rs_seq, Rs_if]
      simp only [Rs_nil, R_call, R_cons, R_nil, R_Var, R_C, R_bin, R_cmp, R_tcmp, R_tOr, R_tAnd, R_tNot, R_tVal, R_tTrue, R_ite, R_eAnd, R_eOr, R_eNot, R_neg, R_tup, R_isi, R_some, Rc_some, N.v_eq, N.v_ne, N.v_lt, N.v_le, N.v_gt, N.v_ge, N.v_add, N.v_sub, N.v_iadd, N.v_xor, N.v_int, N.tru_b, N.pd_d, N.data_nil, N.data_cons, N.len_t, N.v_tupT, N.g_name, N.isNone_n, N.isNone_t, N.isNone_i, N.v_isN, N.v_isNn, N.v_eqB, N.v_neB, List.set_cons_succ, List.set_cons_zero, List.getElem?_cons_succ, List.getElem?_cons_zero, Bool.not_true, Bool.not_false, Bool.false_eq_true, Bool.true_eq_false, eq_self, true_implies, false_implies, true_and, and_true, decide_true, decide_false, Int.zero_add, N.R_sl, N.R_it, R_oNone, R_oSome, wipeN, N.R_lst, N.R_mkF, N.R_mkT, N.R_meth, N.v_addT, Ri_rng1, Ri_rng2, Ri_seq, show TyT.int.of (.bool z) = true from rfl, show TyT.bl.of (.bool z) = true from rfl]
      rw [thn_nx, Rs_seq, Rs_if]
      simp only [Rs_nil, R_call, R_cons, R_nil, R_Var, R_C, R_bin, R_cmp, R_tcmp, R_tOr, R_tAnd, R_tNot, R_tVal, R_tTrue, R_ite, R_eAnd, R_eOr, R_eNot, R_neg, R_tup, R_isi, R_some, Rc_some, N.v_eq, N.v_ne, N.v_lt, N.v_le, N.v_gt, N.v_ge, N.v_add, N.v_sub, N.v_iadd, N.v_xor, N.v_int, N.tru_b, N.pd_d, N.data_nil, N.data_cons, N.len_t, N.v_tupT, N.g_name, N.isNone_n, N.isNone_t, N.isNone_i, N.v_isN, N.v_isNn, N.v_eqB, N.v_neB, List.set_cons_succ, List.set_cons_zero, List.getElem?_cons_succ, List.getElem?_cons_zero, Bool.not_true, Bool.not_false, Bool.false_eq_true, Bool.true_eq_false, eq_self, true_implies, false_implies, true_and, and_true, decide_true, decide_false, Int.zero_add, N.R_sl, N.R_it, R_oNone, R_oSome, wipeN, N.R_lst, N.R_mkF, N.R_mkT, N.R_meth, N.v_addT, Ri_rng1, Ri_rng2, Ri_seq, show TyT.str.of (.bool z) = false from rfl]
      rw [thn_nx, Rs_seq, Rs_ret]
      simp only [Rs_nil, R_call, R_cons, R_nil, R_Var, R_C, R_bin, R_cmp, R_tcmp, R_tOr, R_tAnd, R_tNot, R_tVal, R_tTrue, R_ite, R_eAnd, R_eOr, R_eNot, R_neg, R_tup, R_isi, R_some, Rc_some, N.v_eq, N.v_ne, N.v_lt, N.v_le, N.v_gt, N.v_ge, N.v_add, N.v_sub, N.v_iadd, N.v_xor, N.v_int, N.tru_b, N.pd_d, N.data_nil, N.data_cons, N.len_t, N.v_tupT, N.g_name, N.isNone_n, N.isNone_t, N.isNone_i, N.v_isN, N.v_isNn, N.v_eqB, N.v_neB, List.set_cons_succ, List.set_cons_zero, List.getElem?_cons_succ, List.getElem?_cons_zero, Bool.not_true, Bool.not_false, Bool.false_eq_true, Bool.true_eq_false, eq_self, true_implies, false_implies, true_and, and_true, decide_true, decide_false, Int.zero_add, N.R_sl, N.R_it, R_oNone, R_oSome, wipeN, N.R_lst, N.R_mkF, N.R_mkT, N.R_meth, N.v_addT, Ri_rng1, Ri_rng2, Ri_seq]
      refine ⟨by simp [lim], by simp [lim], ?_⟩
      refine Rc_pickN (P := wd (B + 2) (k + 3)) (fun y hy => ?_) hd fun y hy => ?_
      · simp only [List.mem_cons, List.not_mem_nil, or_false] at hy
        rcases hy with rfl | rfl | rfl | rfl | rfl | rfl | rfl | rfl
        all_goals simp [wd]
      · rw [thn_rt]
        exact fin hy t1
    | list _ => exact hx.elim
    | dict _ => exact hx.elim
theorem R_srtSetN {m : ME} {e : Lo} {s : Sto} {Q : D → Sto → Prop} (h : R (m e s) fun d s1 => ∃ qs : List Nat, d = .d (.list (nt qs)) ∧ qs.length < 60 ∧ ∀ r : List Nat, r.length ≤ qs.length → (∀ x, x ∈ r ↔ x ∈ qs) → r.Pairwise (· < ·) → Q (.d (.list (nt r))) s1) : R (eSrtSetI false m e s) Q := by
  obtain ⟨_, s1, h1, qs, rfl, hl, q⟩ := h
  have hi := intsOf_nt qs
  have e1 : ascI (qs.map ci) = ((ascI (qs.map ci)).map Int.toNat).map ci := by
    rw [List.map_map]
    conv => lhs; rw [← List.map_id (ascI (qs.map ci))]
    refine List.map_congr_left fun x hx => ?_
    obtain ⟨k, _, rfl⟩ := List.mem_map.mp (ascI_mem.mp hx)
    rfl
  have hm : ∀ x, x ∈ (ascI (qs.map ci)).map Int.toNat ↔ x ∈ qs := fun x => by
    rw [List.mem_map]
    constructor
    · rintro ⟨y, hy, rfl⟩
      obtain ⟨k, hk, rfl⟩ := List.mem_map.mp (ascI_mem.mp hy)
      exact hk
    · intro hx
      exact ⟨ci x, ascI_mem.mpr (List.mem_map.mpr ⟨x, hx, rfl⟩), rfl⟩
  have hp : ((ascI (qs.map ci)).map Int.toNat).Pairwise (· < ·) := by
    have h2 := ascI_lt (qs.map ci)
    rw [e1] at h2
    exact (List.pairwise_map.mp h2).imp fun h => Int.ofNat_lt.mp h
  have hlen : ((ascI (qs.map ci)).map Int.toNat).length ≤ qs.length := nodup_le (hp.imp fun h => Nat.ne_of_lt h) fun x hx => (hm x).mp hx
  unfold eSrtSetI
  simp only [h1, hi]
  rw [if_pos (by rw [List.length_map]; exact hl), e1]
  generalize (ascI (qs.map ci)).map Int.toNat = r at hm hp hlen
  rw [R_mkF, List.map_map, show ((fun i : Int => D.d (PyData.int i)) ∘ ci) = D.d ∘ (fun n : Nat => PyData.int (n : Nat)) from rfl, data_mapf, Rc_some]
  exact q r hlen hm hp
theorem R_lcE {α : Type} (enc : α → D) (J : List α → Sto → Prop) {own : Bool} {vs : List Nat} {mi : MI} {g : MG} {mt : MT} {el : ME} {e : Lo} {s : Sto} {Q : D → Sto → Prop} (hi : Ri (mi e s) fun items ck s1 => ∃ l : List α, items = l.map enc ∧ ck = none ∧ J l s1)
    (h : ∀ l s1, J l s1 → R (eLc own vs (fun _ s => some (l.map enc, none, s)) g mt el e s1) Q) : R (eLc own vs mi g mt el e s) Q := by
  obtain ⟨_, _, s1, h1, l, rfl, rfl, hj⟩ := hi
  have := h l s1 hj
  have e1 : eLc own vs mi g mt el e s = eLc own vs (fun _ s => some (l.map enc, none, s)) g mt el e s1 := by
    unfold eLc
    simp only [h1]
  rw [e1]
  exact this
structure SideOk (n : Nat) (rows : List (List Nat)) : Prop where
  l : rows.length = n
  lt : ∀ r ∈ rows, r.length ≤ 40 ∧ ∀ j ∈ r, j < n
theorem lst_bel (xs : List PyData) (n : Nat) : (Cell.lst (xs.map .d)).below n := by
  intro j h
  simp at h
theorem flat_snoc {rest : Sto} (f : Flat rest) {c : Cell} (h : ∀ n, c.below n) : Flat (rest ++ [c]) := fun x hx n => (List.mem_append.mp hx).elim (fun h => f x h n) fun hx => by
  rw [List.mem_singleton.mp hx]
  exact h n
theorem board_ok {rest s : Sto} (t : BS rest s) (f : Flat rest) {most : Nat} (h1 : 1 ≤ most) (h2 : most ≤ 40) {Q : D → Sto → Prop} (q : ∀ n a b s', n ≤ most → Bd n a b → BS rest s' → Q (.d (bdD a b)) s') : R (m__law_board s [.r 1, .d (.int (most : Nat))]) Q := by
  unfold m__law_board b__law_board
  rw [R_fn]
  refine ⟨rfl, ?_⟩
  simp only [List.map_cons, List.map_nil, List.cons_append, List.nil_append, List.length_cons, List.length_nil, Nat.reduceSub, Nat.reduceAdd, List.replicate_succ, List.replicate_zero]
  have hs := t.len
  rw [Rs_seq, Rs_set]
  simp only [Rs_nil, R_call, R_cons, R_nil, R_Var, R_C, R_bin, R_cmp, R_tcmp, R_tOr, R_tAnd, R_tNot, R_tVal, R_tTrue, R_ite, R_eAnd, R_eOr, R_eNot, R_neg, R_tup, R_isi, R_some, Rc_some, N.v_eq, N.v_ne, N.v_lt, N.v_le, N.v_gt, N.v_ge, N.v_add, N.v_sub, N.v_iadd, N.v_xor, N.v_int, N.tru_b, N.pd_d, N.data_nil, N.data_cons, N.len_t, N.v_tupT, N.g_name, N.isNone_n, N.isNone_t, N.isNone_i, N.v_isN, N.v_isNn, N.v_eqB, N.v_neB, List.set_cons_succ, List.set_cons_zero, List.getElem?_cons_succ, List.getElem?_cons_zero, Bool.not_true, Bool.not_false, Bool.false_eq_true, Bool.true_eq_false, eq_self, true_implies, false_implies, true_and, and_true, decide_true, decide_false, Int.zero_add, N.R_sl, N.R_it, R_oNone, R_oSome, wipeN, N.R_lst, N.R_mkF, N.R_mkT, N.R_meth, N.v_addT, Ri_rng1, Ri_rng2, Ri_seq]
  refine R_draw t (m := most) (by omega) (Nat.lt_of_le_of_lt h2 (by decide)) fun d s1 hd t1 => ?_
  simp only [Rs_nil, R_call, R_cons, R_nil, R_Var, R_C, R_bin, R_cmp, R_tcmp, R_tOr, R_tAnd, R_tNot, R_tVal, R_tTrue, R_ite, R_eAnd, R_eOr, R_eNot, R_neg, R_tup, R_isi, R_some, Rc_some, N.v_eq, N.v_ne, N.v_lt, N.v_le, N.v_gt, N.v_ge, N.v_add, N.v_sub, N.v_iadd, N.v_xor, N.v_int, N.tru_b, N.pd_d, N.data_nil, N.data_cons, N.len_t, N.v_tupT, N.g_name, N.isNone_n, N.isNone_t, N.isNone_i, N.v_isN, N.v_isNn, N.v_eqB, N.v_neB, List.set_cons_succ, List.set_cons_zero, List.getElem?_cons_succ, List.getElem?_cons_zero, Bool.not_true, Bool.not_false, Bool.false_eq_true, Bool.true_eq_false, eq_self, true_implies, false_implies, true_and, and_true, decide_true, decide_false, Int.zero_add, N.R_sl, N.R_it, R_oNone, R_oSome, wipeN, N.R_lst, N.R_mkF, N.R_mkT, N.R_meth, N.v_addT, Ri_rng1, Ri_rng2, Ri_seq]
  rw [show (1 : Int) + ((d : Nat) : Int) = ((1 + d : Nat) : Int) by omega]
  have n1 : 1 ≤ 1 + d := by omega
  have n2 : 1 + d ≤ most := by omega
  generalize 1 + d = n at n1 n2
  rw [thn_nx, Rs_seq, Rs_set]
  simp only [Rs_nil, R_call, R_cons, R_nil, R_Var, R_C, R_bin, R_cmp, R_tcmp, R_tOr, R_tAnd, R_tNot, R_tVal, R_tTrue, R_ite, R_eAnd, R_eOr, R_eNot, R_neg, R_tup, R_isi, R_some, Rc_some, N.v_eq, N.v_ne, N.v_lt, N.v_le, N.v_gt, N.v_ge, N.v_add, N.v_sub, N.v_iadd, N.v_xor, N.v_int, N.tru_b, N.pd_d, N.data_nil, N.data_cons, N.len_t, N.v_tupT, N.g_name, N.isNone_n, N.isNone_t, N.isNone_i, N.v_isN, N.v_isNn, N.v_eqB, N.v_neB, List.set_cons_succ, List.set_cons_zero, List.getElem?_cons_succ, List.getElem?_cons_zero, Bool.not_true, Bool.not_false, Bool.false_eq_true, Bool.true_eq_false, eq_self, true_implies, false_implies, true_and, and_true, decide_true, decide_false, Int.zero_add, N.R_sl, N.R_it, R_oNone, R_oSome, wipeN, N.R_lst, N.R_mkF, N.R_mkT, N.R_meth, N.v_addT, Ri_rng1, Ri_rng2, Ri_seq]
  refine ⟨by simp [lim], ?_⟩
  have l1 : s1.length = rest.length + 2 := by rw [t1.len]; omega
  rw [l1, thn_nx, Rs_seq]
  refine Rs_for ([0, 1] : List Int) (fun i => .d (.int i)) (fun k e s' => ∃ S : List (List (List Nat)), S.length = k ∧ (∀ x ∈ S, SideOk n x) ∧ BS (rest ++ [.lst ((S.map sideD).map .d)]) s' ∧ e = [some (.r 1), some (.d (.int (most : Nat))), some (.d (.int (n : Nat))), some (.r (rest.length + 2)), none, none, none, none]) ?_ (fun k x e s' hk hq => ?_) (fun e s' hq => ?_)
  · refine Ri_tupP ?_
    simp only [Rs_nil, R_call, R_cons, R_nil, R_Var, R_C, R_bin, R_cmp, R_tcmp, R_tOr, R_tAnd, R_tNot, R_tVal, R_tTrue, R_ite, R_eAnd, R_eOr, R_eNot, R_neg, R_tup, R_isi, R_some, Rc_some, N.v_eq, N.v_ne, N.v_lt, N.v_le, N.v_gt, N.v_ge, N.v_add, N.v_sub, N.v_iadd, N.v_xor, N.v_int, N.tru_b, N.pd_d, N.data_nil, N.data_cons, N.len_t, N.v_tupT, N.g_name, N.isNone_n, N.isNone_t, N.isNone_i, N.v_isN, N.v_isNn, N.v_eqB, N.v_neB, List.set_cons_succ, List.set_cons_zero, List.getElem?_cons_succ, List.getElem?_cons_zero, Bool.not_true, Bool.not_false, Bool.false_eq_true, Bool.true_eq_false, eq_self, true_implies, false_implies, true_and, and_true, decide_true, decide_false, Int.zero_add, N.R_sl, N.R_it, R_oNone, R_oSome, wipeN, N.R_lst, N.R_mkF, N.R_mkT, N.R_meth, N.v_addT, Ri_rng1, Ri_rng2, Ri_seq]
    refine ⟨by simp [lim], [.int 0, .int 1], rfl, ?_⟩
    have h0 : BS (rest ++ [Cell.lst (((([] : List (List (List Nat))).map sideD).map D.d))]) (s1 ++ [Cell.lst []]) := t1.app [Cell.lst []]
    first | exact ⟨rfl, rfl, [], rfl, by simp, h0⟩ | exact ⟨rfl, [], rfl, by simp, h0⟩
  · obtain ⟨S, hSl, hS, t2, rfl⟩ := hq
    have kl : k < 2 := by simpa using (List.getElem?_eq_some_iff.mp hk).1
    have f2 : Flat (rest ++ [Cell.lst ((S.map sideD).map D.d)]) := flat_snoc f (lst_bel _)
    rw [g_name, Rc_some, Rs_seq, Rs_set]
    simp only [Rs_nil, R_call, R_cons, R_nil, R_Var, R_C, R_bin, R_cmp, R_tcmp, R_tOr, R_tAnd, R_tNot, R_tVal, R_tTrue, R_ite, R_eAnd, R_eOr, R_eNot, R_neg, R_tup, R_isi, R_some, Rc_some, N.v_eq, N.v_ne, N.v_lt, N.v_le, N.v_gt, N.v_ge, N.v_add, N.v_sub, N.v_iadd, N.v_xor, N.v_int, N.tru_b, N.pd_d, N.data_nil, N.data_cons, N.len_t, N.v_tupT, N.g_name, N.isNone_n, N.isNone_t, N.isNone_i, N.v_isN, N.v_isNn, N.v_eqB, N.v_neB, List.set_cons_succ, List.set_cons_zero, List.getElem?_cons_succ, List.getElem?_cons_zero, Bool.not_true, Bool.not_false, Bool.false_eq_true, Bool.true_eq_false, eq_self, true_implies, false_implies, true_and, and_true, decide_true, decide_false, Int.zero_add, N.R_sl, N.R_it, R_oNone, R_oSome, wipeN, N.R_lst, N.R_mkF, N.R_mkT, N.R_meth, N.v_addT, Ri_rng1, Ri_rng2, Ri_seq]
    refine ⟨by simp [lim], ?_⟩
    have l2 : s'.length = rest.length + 3 := by rw [t2.len]; simp; omega
    rw [l2, thn_nx, Rs_seq]
    refine Rs_for (List.range n) (fun k => .d (.int (k : Nat))) (fun k e s' => ∃ R : List (List Nat), R.length = k ∧ (∀ r ∈ R, r.length ≤ 40 ∧ ∀ j ∈ r, j < n) ∧ BS (rest ++ [.lst ((S.map sideD).map .d)] ++ [.lst ((R.map tup).map .d)]) s' ∧ e = [some (.r 1), some (.d (.int (most : Nat))), some (.d (.int (n : Nat))), some (.r (rest.length + 2)), some (.d (.int x)), some (.r (rest.length + 3)), none, none]) ?_ (fun k y e s4 hk hq => ?_) (fun e s4 hq => ?_)
    · rw [Ri_rng1]
      simp only [Rs_nil, R_call, R_cons, R_nil, R_Var, R_C, R_bin, R_cmp, R_tcmp, R_tOr, R_tAnd, R_tNot, R_tVal, R_tTrue, R_ite, R_eAnd, R_eOr, R_eNot, R_neg, R_tup, R_isi, R_some, Rc_some, N.v_eq, N.v_ne, N.v_lt, N.v_le, N.v_gt, N.v_ge, N.v_add, N.v_sub, N.v_iadd, N.v_xor, N.v_int, N.tru_b, N.pd_d, N.data_nil, N.data_cons, N.len_t, N.v_tupT, N.g_name, N.isNone_n, N.isNone_t, N.isNone_i, N.v_isN, N.v_isNn, N.v_eqB, N.v_neB, List.set_cons_succ, List.set_cons_zero, List.getElem?_cons_succ, List.getElem?_cons_zero, Bool.not_true, Bool.not_false, Bool.false_eq_true, Bool.true_eq_false, eq_self, true_implies, false_implies, true_and, and_true, decide_true, decide_false, Int.zero_add, N.R_sl, N.R_it, R_oNone, R_oSome, wipeN, N.R_lst, N.R_mkF, N.R_mkT, N.R_meth, N.v_addT, Ri_rng1, Ri_rng2, Ri_seq]
      have h0 : BS (rest ++ [Cell.lst ((S.map sideD).map D.d)] ++ [Cell.lst ((([] : List (List Nat)).map tup).map D.d)]) (s' ++ [Cell.lst []]) := t2.app [Cell.lst []]
      exact ⟨⟨by omega, by omega⟩, rng0N rfl, [], rfl, by simp, h0⟩
    · obtain ⟨R0, hRl, hR, t4, rfl⟩ := hq
      have kl2 := (List.getElem?_eq_some_iff.mp hk).1
      rw [List.length_range] at kl2
      have f4 : Flat (rest ++ [Cell.lst ((S.map sideD).map D.d)] ++ [Cell.lst ((R0.map tup).map D.d)]) := flat_snoc f2 (lst_bel _)
      have l4 : s4.length = rest.length + 4 := by rw [t4.len]; simp; omega
      rw [g_name, Rc_some, Rs_seq, Rs_expr]
      have gR : ∀ {s5 : Sto}, BS (rest ++ [Cell.lst ((S.map sideD).map D.d)] ++ [Cell.lst ((R0.map tup).map D.d)]) s5 → s5[rest.length + 3]? = some (.lst ((R0.map tup).map .d)) := fun {s5} t5 => by
        have := t5.get (rest.length + 1)
        rw [this]
        simp
      simp only [Rs_nil, R_call, R_cons, R_nil, R_Var, R_C, R_bin, R_cmp, R_tcmp, R_tOr, R_tAnd, R_tNot, R_tVal, R_tTrue, R_ite, R_eAnd, R_eOr, R_eNot, R_neg, R_tup, R_isi, R_some, Rc_some, N.v_eq, N.v_ne, N.v_lt, N.v_le, N.v_gt, N.v_ge, N.v_add, N.v_sub, N.v_iadd, N.v_xor, N.v_int, N.tru_b, N.pd_d, N.data_nil, N.data_cons, N.len_t, N.v_tupT, N.g_name, N.isNone_n, N.isNone_t, N.isNone_i, N.v_isN, N.v_isNn, N.v_eqB, N.v_neB, List.set_cons_succ, List.set_cons_zero, List.getElem?_cons_succ, List.getElem?_cons_zero, Bool.not_true, Bool.not_false, Bool.false_eq_true, Bool.true_eq_false, eq_self, true_implies, false_implies, true_and, and_true, decide_true, decide_false, Int.zero_add, N.R_sl, N.R_it, R_oNone, R_oSome, wipeN, N.R_lst, N.R_mkF, N.R_mkT, N.R_meth, N.v_addT, Ri_rng1, Ri_rng2, Ri_seq, gR t4]
      refine R_srtSetN ?_
      refine R_lcE (fun (k : Nat) => .d (.int (k : Nat))) (fun l s' => ∃ m, l = List.range m ∧ m ≤ 3 ∧ BS (rest ++ [Cell.lst ((S.map sideD).map D.d)] ++ [Cell.lst ((R0.map tup).map D.d)]) s') ?_ fun l s5 hj => ?_
      · rw [Ri_rng1]
        simp only [Rs_nil, R_call, R_cons, R_nil, R_Var, R_C, R_bin, R_cmp, R_tcmp, R_tOr, R_tAnd, R_tNot, R_tVal, R_tTrue, R_ite, R_eAnd, R_eOr, R_eNot, R_neg, R_tup, R_isi, R_some, Rc_some, N.v_eq, N.v_ne, N.v_lt, N.v_le, N.v_gt, N.v_ge, N.v_add, N.v_sub, N.v_iadd, N.v_xor, N.v_int, N.tru_b, N.pd_d, N.data_nil, N.data_cons, N.len_t, N.v_tupT, N.g_name, N.isNone_n, N.isNone_t, N.isNone_i, N.v_isN, N.v_isNn, N.v_eqB, N.v_neB, List.set_cons_succ, List.set_cons_zero, List.getElem?_cons_succ, List.getElem?_cons_zero, Bool.not_true, Bool.not_false, Bool.false_eq_true, Bool.true_eq_false, eq_self, true_implies, false_implies, true_and, and_true, decide_true, decide_false, Int.zero_add, N.R_sl, N.R_it, R_oNone, R_oSome, wipeN, N.R_lst, N.R_mkF, N.R_mkT, N.R_meth, N.v_addT, Ri_rng1, Ri_rng2, Ri_seq]
        refine R_draw t4 (m := 4) (by decide) (by decide) fun d s5 hd t5 => ?_
        exact ⟨⟨by omega, by omega⟩, List.range d, rng0N rfl, d, rfl, by omega, t5⟩
      obtain ⟨m, rfl, hm3, t5⟩ := hj
      refine R_lcJ (List.range m) (fun k => .d (.int (k : Nat))) (fun k acc s' => BS (rest ++ [Cell.lst ((S.map sideD).map D.d)] ++ [Cell.lst ((R0.map tup).map D.d)]) s' ∧ ∃ qs : List Nat, acc = nt qs ∧ qs.length = k ∧ ∀ p ∈ qs, p < n) ⟨_, _, _, rfl, rfl, rfl, rfl⟩ ⟨t5, [], rfl, rfl, by simp⟩ (fun k acc s6 hq => ?_) (fun k x acc s6 hx hq => ?_) (by simp only [lim, List.length_range]; omega) (fun acc s6 hq => ?_)
      · have ll : s6.length = s5.length := by rw [hq.1.len, t5.len]
        exact ⟨ll, trim_wf ll (hq.1.wf f4)⟩
      · obtain ⟨t6, qs, rfl, hql, hqp⟩ := hq
        rw [g_name, Rc_some]
        simp only [Rs_nil, R_call, R_cons, R_nil, R_Var, R_C, R_bin, R_cmp, R_tcmp, R_tOr, R_tAnd, R_tNot, R_tVal, R_tTrue, R_ite, R_eAnd, R_eOr, R_eNot, R_neg, R_tup, R_isi, R_some, Rc_some, N.v_eq, N.v_ne, N.v_lt, N.v_le, N.v_gt, N.v_ge, N.v_add, N.v_sub, N.v_iadd, N.v_xor, N.v_int, N.tru_b, N.pd_d, N.data_nil, N.data_cons, N.len_t, N.v_tupT, N.g_name, N.isNone_n, N.isNone_t, N.isNone_i, N.v_isN, N.v_isNn, N.v_eqB, N.v_neB, List.set_cons_succ, List.set_cons_zero, List.getElem?_cons_succ, List.getElem?_cons_zero, Bool.not_true, Bool.not_false, Bool.false_eq_true, Bool.true_eq_false, eq_self, true_implies, false_implies, true_and, and_true, decide_true, decide_false, Int.zero_add, N.R_sl, N.R_it, R_oNone, R_oSome, wipeN, N.R_lst, N.R_mkF, N.R_mkT, N.R_meth, N.v_addT, Ri_rng1, Ri_rng2, Ri_seq]
        refine R_draw (t6.app [Cell.lst ((nt qs).map D.d)]) (m := n) (by omega) (Nat.lt_of_le_of_lt (show n ≤ 40 by omega) (by decide)) fun a s7 ha t7 => ?_
        obtain ⟨s8, rfl, t8⟩ := BS.unapp (g := [Cell.lst ((nt qs).map D.d)]) t7
        refine ⟨_, s8, rfl, rfl, t8, qs ++ [a], by simp [nt], by simp [hql], fun p hp => ?_⟩
        rcases List.mem_append.mp hp with hp | hp
        · exact hqp p hp
        · rw [List.mem_singleton.mp hp]; exact ha
      · obtain ⟨t6, qs, rfl, hql, hqp⟩ := hq
        rw [List.length_range] at hql
        refine ⟨qs, rfl, by omega, fun r hr1 hr2 _ => ?_⟩
        rw [v_tupL, R_some]
        simp only [gR t6]
        rw [v_app]
        refine ⟨by rw [List.length_map, List.length_map]; simp only [lim]; omega, ?_⟩
        rw [thn_nx, Rs_nil, aft_nx, trimE_len (by rw [List.length_set, t6.len, t4.len])]
        refine ⟨R0 ++ [r], by simp [hRl], fun x hx => ?_, ?_, by simp [wipeN]⟩
        · rcases List.mem_append.mp hx with hx | hx
          · exact hR x hx
          · rw [List.mem_singleton.mp hx]
            exact ⟨by omega, fun j hj => hqp j ((hr2 j).mp hj)⟩
        · have := t6.put (rest.length + 1) (Cell.lst (((R0 ++ [r]).map tup).map D.d))
          rw [List.set_append_right _ _ (by simp)] at this
          simpa [tup] using this
    · obtain ⟨R0, hRl, hR, t4, rfl⟩ := hq
      rw [List.length_range] at hRl
      have gR : s4[rest.length + 3]? = some (.lst ((R0.map tup).map .d)) := by
        have := t4.get (rest.length + 1)
        rw [this]
        simp
      have gS : s4[rest.length + 2]? = some (.lst ((S.map sideD).map .d)) := by
        have := t4.get rest.length
        rw [this]
        simp
      rw [thn_nx, Rs_seq, Rs_expr]
      simp only [Rs_nil, R_call, R_cons, R_nil, R_Var, R_C, R_bin, R_cmp, R_tcmp, R_tOr, R_tAnd, R_tNot, R_tVal, R_tTrue, R_ite, R_eAnd, R_eOr, R_eNot, R_neg, R_tup, R_isi, R_some, Rc_some, N.v_eq, N.v_ne, N.v_lt, N.v_le, N.v_gt, N.v_ge, N.v_add, N.v_sub, N.v_iadd, N.v_xor, N.v_int, N.tru_b, N.pd_d, N.data_nil, N.data_cons, N.len_t, N.v_tupT, N.g_name, N.isNone_n, N.isNone_t, N.isNone_i, N.v_isN, N.v_isNn, N.v_eqB, N.v_neB, List.set_cons_succ, List.set_cons_zero, List.getElem?_cons_succ, List.getElem?_cons_zero, Bool.not_true, Bool.not_false, Bool.false_eq_true, Bool.true_eq_false, eq_self, true_implies, false_implies, true_and, and_true, decide_true, decide_false, Int.zero_add, N.R_sl, N.R_it, R_oNone, R_oSome, wipeN, N.R_lst, N.R_mkF, N.R_mkT, N.R_meth, N.v_addT, Ri_rng1, Ri_rng2, Ri_seq, gS]
      rw [v_tupR gR, R_some]
      simp only [gS]
      rw [v_app]
      refine ⟨by rw [List.length_map, List.length_map]; simp only [lim]; omega, ?_⟩
      have t5 : BS (rest ++ [Cell.lst (((S ++ [R0]).map sideD).map D.d)] ++ [Cell.lst ((R0.map tup).map D.d)]) (s4.set (rest.length + 2) (Cell.lst ((S.map sideD).map D.d ++ [D.d (.tuple (R0.map tup))]))) := by
        have := t4.put rest.length (Cell.lst (((S ++ [R0]).map sideD).map D.d))
        rw [List.append_assoc, List.set_append_right _ _ (Nat.le_refl _), Nat.sub_self, List.singleton_append, List.set_cons_zero] at this
        rw [List.append_assoc]
        simpa [sideD] using this
      obtain ⟨s6, e6, t6⟩ := BS.unapp t5
      have f6 : Flat (rest ++ [Cell.lst (((S ++ [R0]).map sideD).map D.d)]) := flat_snoc f (lst_bel _)
      rw [e6, thn_nx, Rs_nil, aft_nx, trimE_wf (by rw [t6.len, t2.len]; simp) (t6.wf f6) (by
        intro i j hj
        have hm := List.mem_of_getElem? hj
        simp [wipeN] at hm
        rw [l2]
        omega)]
      refine ⟨S ++ [R0], by simp [hSl], fun x hx => ?_, t6, by simp [wipeN]⟩
      rcases List.mem_append.mp hx with hx | hx
      · exact hS x hx
      · rw [List.mem_singleton.mp hx]
        exact ⟨hRl, hR⟩
  · obtain ⟨S, hSl, hS, t2, rfl⟩ := hq
    have gS : s'[rest.length + 2]? = some (.lst ((S.map sideD).map .d)) := by
      have := t2.get rest.length
      rw [this]
      simp
    rw [thn_nx, Rs_seq, Rs_ret]
    simp only [Rs_nil, R_call, R_cons, R_nil, R_Var, R_C, R_bin, R_cmp, R_tcmp, R_tOr, R_tAnd, R_tNot, R_tVal, R_tTrue, R_ite, R_eAnd, R_eOr, R_eNot, R_neg, R_tup, R_isi, R_some, Rc_some, N.v_eq, N.v_ne, N.v_lt, N.v_le, N.v_gt, N.v_ge, N.v_add, N.v_sub, N.v_iadd, N.v_xor, N.v_int, N.tru_b, N.pd_d, N.data_nil, N.data_cons, N.len_t, N.v_tupT, N.g_name, N.isNone_n, N.isNone_t, N.isNone_i, N.v_isN, N.v_isNn, N.v_eqB, N.v_neB, List.set_cons_succ, List.set_cons_zero, List.getElem?_cons_succ, List.getElem?_cons_zero, Bool.not_true, Bool.not_false, Bool.false_eq_true, Bool.true_eq_false, eq_self, true_implies, false_implies, true_and, and_true, decide_true, decide_false, Int.zero_add, N.R_sl, N.R_it, R_oNone, R_oSome, wipeN, N.R_lst, N.R_mkF, N.R_mkT, N.R_meth, N.v_addT, Ri_rng1, Ri_rng2, Ri_seq]
    rw [v_tupR gS, R_some, thn_rt]
    obtain ⟨x, y, rfl⟩ : ∃ x y, S = [x, y] := by
      match S, hSl with
      | [x, y], _ => exact ⟨x, y, rfl⟩
    obtain ⟨s5, rfl, t5⟩ := BS.unapp t2
    refine R_retd.mpr ?_
    rw [trim_wf (by rw [t5.len, t.len]) (t5.wf f)]
    have hx := hS x (by simp)
    have hy := hS y (by simp)
    refine q n x y s5 n2 (show Bd n x y from ⟨n1, by omega, hx.l, hy.l, fun r hr => ?_, fun r hr => ?_⟩) t5
    · rcases hr with hr | hr
      · exact (hx.lt r hr).2
      · exact (hy.lt r hr).2
    · rcases hr with hr | hr
      · exact (hx.lt r hr).1
      · exact (hy.lt r hr).1
end N

namespace T54
open PySem L2 PyProof.Rows N
open Z (Dfn)
def topS (i : Nat) : Stmt := PySem.Challenge.pw_cantmove_k54_whole_ranks.main.body.getD i (.Pass ⟨0, 0, 0, 0⟩)
structure Nm (mg : Str → Option Value) : Prop where
  n_all : mg "all" = none
  n_any : mg "any" = none
  n_bool : mg "bool" = none
  n_int : mg "int" = none
  n_isinstance : mg "isinstance" = none
  n_len : mg "len" = none
  n_list : mg "list" = none
  n_max : mg "max" = none
  n_min : mg "min" = none
  n_range : mg "range" = none
  n_set : mg "set" = none
  n_sorted : mg "sorted" = none
  n_str : mg "str" = none
  n_tuple : mg "tuple" = none
structure Gm (K : PySem.W.Frag) (mg : Str → Option Value) : Prop where
  SIDES : Gk K mg "SIDES" (.tuple [(.str "left"), (.str "right")])
variable {P : Program} {w : World} {K : PySem.W.Frag} {mg : Str → Option Value} {base : Heap}
abbrev s_other_one : Stmt := topS 1
theorem sc_other_one : FnScope ["who"] ["who"] (defScope s_other_one) := ⟨rfl, rfl, rfl, by decide +kernel, rfl, by decide +kernel, by decide +kernel⟩
theorem c_other_one (DD : Dfn K mg "other_one" s_other_one ["who"]) (n : Nm mg) (g : Gm K mg)  : Fn P w K mg base 1 "other_one" m_other_one :=
  nfun (k := 0) DD sc_other_one fun f cdv A outer s H E hr => by
  have hu := hr.units
  have nd := sc_other_one.nd
  exact (ns_seq (ns_ret (n_ite (nt_cmp (c_eq hu) (n_var 0) n_str) n_str n_str))
  ns_nil)
abbrev s_is_number : Stmt := topS 3
theorem sc_is_number : FnScope ["value", "least", "most"] ["value", "least", "most"] (defScope s_is_number) := ⟨rfl, rfl, rfl, by decide +kernel, rfl, by decide +kernel, by decide +kernel⟩
theorem c_is_number (DD : Dfn K mg "is_number" s_is_number ["value", "least", "most"]) (n : Nm mg) (g : Gm K mg)  : Fn P w K mg base 1 "is_number" m_is_number :=
  nfun (k := 0) DD sc_is_number fun f cdv A outer s H E hr => by
  have hu := hr.units
  have nd := sc_is_number.nd
  exact (ns_seq (ns_ret (n_and (n_isi .int (n_var 0) n.n_isinstance n.n_int) (n_and (n_not (n_isi .bl (n_var 0) n.n_isinstance n.n_bool)) (n_one (n_ch op_le op_le (n_var 1) (n_var 0) (n_var 2))))))
  ns_nil)
abbrev s_moves_of : Stmt := topS 5
theorem sc_moves_of : FnScope ["board", "who"] ["board", "who"] (defScope s_moves_of) := ⟨rfl, rfl, rfl, by decide +kernel, rfl, by decide +kernel, by decide +kernel⟩
theorem c_moves_of (DD : Dfn K mg "moves_of" s_moves_of ["board", "who"]) (n : Nm mg) (g : Gm K mg)  : Fn P w K mg base 1 "moves_of" m_moves_of :=
  nfun (k := 0) DD sc_moves_of fun f cdv A outer s H E hr => by
  have hu := hr.units
  have nd := sc_moves_of.nd
  exact (ns_seq (ns_ret (n_ite (nt_cmp (c_eq hu) (n_var 1) n_str) (n_it hu (n_var 0) n_int) (n_it hu (n_var 0) n_int)))
  ns_nil)
abbrev s_turned_board : Stmt := topS 6
theorem sc_turned_board : FnScope ["board"] ["board"] (defScope s_turned_board) := ⟨rfl, rfl, rfl, by decide +kernel, rfl, by decide +kernel, by decide +kernel⟩
theorem c_turned_board (DD : Dfn K mg "turned_board" s_turned_board ["board"]) (n : Nm mg) (g : Gm K mg)  : Fn P w K mg base 1 "turned_board" m_turned_board :=
  nfun (k := 0) DD sc_turned_board fun f cdv A outer s H E hr => by
  have hu := hr.units
  have nd := sc_turned_board.nd
  exact (ns_seq (ns_ret (n_tup (n_cons (n_it hu (n_var 0) n_int) (n_cons (n_it hu (n_var 0) n_int) n_nil))))
  ns_nil)
abbrev s_is_loopless : Stmt := topS 7
theorem sc_is_loopless : FnScope ["board", "n", "left", "there", "i", "j"] ["board"] (defScope s_is_loopless) := ⟨rfl, rfl, rfl, by decide +kernel, rfl, by decide +kernel, by decide +kernel⟩
theorem c_is_loopless (DD : Dfn K mg "is_loopless" s_is_loopless ["board"]) (n : Nm mg) (g : Gm K mg)  : Fn P w K mg base 1 "is_loopless" m_is_loopless :=
  nfun (k := 0) DD sc_is_loopless fun f cdv A outer s H E hr => by
  have hu := hr.units
  have nd := sc_is_loopless.nd
  exact (ns_seq (ns_set 1 (n_callB b_len (n_cons (n_it hu (n_var 0) n_int) n_nil) n.n_len) nd)
  (ns_seq (ns_set 2 (n_lstR rfl (n_var 1) n.n_list n.n_range) nd)
  (ns_seq (ns_while (nt_val n_bl) (ns_seq (ns_setLc 3 (ni_seq (n_var 2)) (fun z => (ng_name 4 nd)) (fun z => (nts_one (nt_val (n_callB (b_any rfl) (n_cons (n_lc (ni_seq (n_bin o_add (n_it hu (n_it hu (n_var 0) n_int) (n_var 4)) (n_it hu (n_it hu (n_var 0) n_int) (n_var 4)))) (fun z => (ng_name 5 nd)) (fun z => nts_nil) (fun z => (n_in (.inl ⟨rfl, rfl⟩) hu (n_var 5) (n_var 2))) nd (blkOk_by (own := [("j", 5)]) (by kernel_rfl))) n_nil) n.n_any)))) (fun z => (n_var 4)) nd (blkOk_by (own := [("i", 4)]) (by kernel_rfl)))
  (ns_seq (ns_if (nt_cmp (c_eq hu) (n_callB b_len (n_cons (n_var 3) n_nil) n.n_len) (n_callB b_len (n_cons (n_var 2) n_nil) n.n_len)) (ns_seq (ns_ret (n_not (n_var 2)))
  ns_nil) ns_nil)
  (ns_seq (ns_set 2 (n_var 3) nd)
  ns_nil))) PassesOwn.never)
  ns_nil)))
abbrev s_is_due : Stmt := topS 11
theorem sc_is_due : FnScope ["board", "found", "who", "i", "rank", "rows", "j", "row"] ["board", "found", "who", "i", "rank"] (defScope s_is_due) := ⟨rfl, rfl, rfl, by decide +kernel, rfl, by decide +kernel, by decide +kernel⟩
theorem c_is_due (DD : Dfn K mg "is_due" s_is_due ["board", "found", "who", "i", "rank"]) (n : Nm mg) (g : Gm K mg) (h_moves_of : Fn P w K mg base 1 "moves_of" m_moves_of) (h_other_one : Fn P w K mg base 1 "other_one" m_other_one) : Fn P w K mg base 2 "is_due" m_is_due :=
  nfun (k := 1) DD sc_is_due fun f cdv A outer s H E hr => by
  have hu := hr.units
  have nd := sc_is_due.nd
  exact (ns_seq (ns_setLc 5 (ni_seq (n_it hu (n_call h_moves_of (n_cons (n_var 0) (n_cons (n_var 2) n_nil)) hr) (n_var 3))) (fun z => (ng_name 6 nd)) (fun z => nts_nil) (fun z => (n_getT hu (n_var 1) (n_cons (n_tup (n_cons (n_call h_other_one (n_cons (n_var 2) n_nil) hr) (n_cons (n_var 6) n_nil))) n_nil))) nd (blkOk_by (own := [("j", 6)]) (by kernel_rfl)))
  (ns_seq (ns_if (nt_cmp (c_eq hu) (n_bin o_mod (n_var 4) n_int) n_int) (ns_seq (ns_ret (n_in (.inl ⟨rfl, rfl⟩) hu (n_bin o_sub (n_var 4) n_int) (n_var 5)))
  ns_nil) ns_nil)
  (ns_seq (ns_ret (n_callB (b_all rfl) (n_cons (n_lc (ni_seq (n_var 5)) (fun z => (ng_name 7 nd)) (fun z => nts_nil) (fun z => (n_and (n_cmp c_isnot (n_var 7) n_non) (n_one (n_cmp (c_eq hu) (n_bin o_mod (n_var 7) n_int) n_int)))) nd (blkOk_by (own := [("row", 7)]) (by kernel_rfl))) n_nil) n.n_all))
  ns_nil)))
abbrev s_ranks : Stmt := topS 10
theorem sc_ranks : FnScope ["board", "n", "found", "rank", "rest", "who", "i", "new", "key"] ["board"] (defScope s_ranks) := ⟨rfl, rfl, rfl, by decide +kernel, rfl, by decide +kernel, by decide +kernel⟩
theorem c_ranks (DD : Dfn K mg "ranks" s_ranks ["board"]) (n : Nm mg) (g : Gm K mg) (h_is_due : Fn P w K mg base 2 "is_due" m_is_due) : Fn P w K mg base 3 "ranks" m_ranks :=
  nfun (k := 2) DD sc_ranks fun f cdv A outer s H E hr => by
  have hu := hr.units
  have nd := sc_ranks.nd
  exact (ns_seq (ns_set 1 (n_callB b_len (n_cons (n_it hu (n_var 0) n_int) n_nil) n.n_len) nd)
  (ns_seq (ns_set 2 n_dic nd)
  (ns_seq (ns_set 3 n_int nd)
  (ns_seq (ns_while (nt_val n_bl) (ns_seq (ns_setLc2 4 (ni_seq (n_globK g.SIDES)) (fun z => (ng_name 5 nd)) (fun z => nts_nil) (fun z => (ni_rng1 (n_cons (n_var 1) n_nil) n.n_range)) (fun z => (ng_name 6 nd)) (fun z => (nts_one (nt_in (.inr ⟨rfl, rfl⟩) hu (n_tup (n_cons (n_var 5) (n_cons (n_var 6) n_nil))) (n_var 2)))) (fun z => (n_tup (n_cons (n_var 5) (n_cons (n_var 6) n_nil)))) nd (blkOk_by (own := [("who", 5), ("i", 6)]) (by kernel_rfl)))
  (ns_seq (ns_setLc 7 (ni_seq (n_var 4)) (fun z => (ng_tup (ngs_cons (ng_name 5 nd) (ngs_cons (ng_name 6 nd) ngs_nil)))) (fun z => (nts_one (nt_val (n_call h_is_due (n_cons (n_var 0) (n_cons (n_var 2) (n_cons (n_var 5) (n_cons (n_var 6) (n_cons (n_var 3) n_nil))))) hr)))) (fun z => (n_tup (n_cons (n_var 5) (n_cons (n_var 6) n_nil)))) nd (blkOk_by (own := [("who", 5), ("i", 6)]) (by kernel_rfl)))
  (ns_seq (ns_if (nt_bo (nw_and (nt_not (nt_val (n_var 7))) (nw_and1 (nt_cmp c_gt (n_var 3) (n_bin o_mul n_int (n_var 1)))))) (ns_seq ns_bk
  ns_nil) ns_nil)
  (ns_seq (ns_for (vs := [8]) (ni_seq (n_var 7)) (ng_name 8 nd) (ns_seq (ns_pu hu (n_var 3) (n_var 2) (n_var 8))
  ns_nil) PassesOwn.never)
  (ns_seq (ns_aug io_add 3 n_int nd)
  ns_nil))))) PassesOwn.never)
  (ns_seq (ns_ret (n_callT b_tuple (n_cons (n_lc (ni_seq (n_globK g.SIDES)) (fun z => (ng_name 5 nd)) (fun z => nts_nil) (fun z => (n_callT b_tuple (n_cons (n_lc (ni_rng1 (n_cons (n_var 1) n_nil) n.n_range) (fun z => (ng_name 6 nd)) (fun z => nts_nil) (fun z => (n_getT hu (n_var 2) (n_cons (n_tup (n_cons (n_var 5) (n_cons (n_var 6) n_nil))) n_nil))) nd (blkOk_by (own := [("i", 6)]) (by kernel_rfl))) n_nil) n.n_tuple)) nd (blkOk_by (own := [("who", 5)]) (by kernel_rfl))) n_nil) n.n_tuple))
  ns_nil)))))
abbrev s_rank_of : Stmt := topS 12
theorem sc_rank_of : FnScope ["rows", "who", "i"] ["rows", "who", "i"] (defScope s_rank_of) := ⟨rfl, rfl, rfl, by decide +kernel, rfl, by decide +kernel, by decide +kernel⟩
theorem c_rank_of (DD : Dfn K mg "rank_of" s_rank_of ["rows", "who", "i"]) (n : Nm mg) (g : Gm K mg)  : Fn P w K mg base 1 "rank_of" m_rank_of :=
  nfun (k := 0) DD sc_rank_of fun f cdv A outer s H E hr => by
  have hu := hr.units
  have nd := sc_rank_of.nd
  exact (ns_seq (ns_ret (n_it hu (n_it hu (n_var 0) (n_ite (nt_cmp (c_eq hu) (n_var 1) n_str) n_int n_int)) (n_var 2)))
  ns_nil)
abbrev s_winner : Stmt := topS 13
theorem sc_winner : FnScope ["board", "place", "who", "rank"] ["board", "place", "who"] (defScope s_winner) := ⟨rfl, rfl, rfl, by decide +kernel, rfl, by decide +kernel, by decide +kernel⟩
theorem c_winner (DD : Dfn K mg "winner" s_winner ["board", "place", "who"]) (n : Nm mg) (g : Gm K mg) (h_other_one : Fn P w K mg base 1 "other_one" m_other_one) (h_rank_of : Fn P w K mg base 1 "rank_of" m_rank_of) (h_ranks : Fn P w K mg base 3 "ranks" m_ranks) : Fn P w K mg base 4 "winner" m_winner :=
  nfun (k := 3) DD sc_winner fun f cdv A outer s H E hr => by
  have hu := hr.units
  have nd := sc_winner.nd
  exact (ns_seq (ns_set 3 (n_call h_rank_of (n_cons (n_call h_ranks (n_cons (n_var 0) n_nil) hr) (n_cons (n_var 2) (n_cons (n_var 1) n_nil))) hr) nd)
  (ns_seq (ns_if (nt_cmp c_is (n_var 3) n_non) (ns_seq (ns_ret n_str)
  ns_nil) ns_nil)
  (ns_seq (ns_ret (n_ite (nt_cmp (c_eq hu) (n_bin o_mod (n_var 3) n_int) n_int) (n_var 2) (n_call h_other_one (n_cons (n_var 2) n_nil) hr)))
  ns_nil)))
abbrev s_is_rank : Stmt := topS 14
theorem sc_is_rank : FnScope ["value"] ["value"] (defScope s_is_rank) := ⟨rfl, rfl, rfl, by decide +kernel, rfl, by decide +kernel, by decide +kernel⟩
theorem c_is_rank (DD : Dfn K mg "is_rank" s_is_rank ["value"]) (n : Nm mg) (g : Gm K mg) (h_is_number : Fn P w K mg base 1 "is_number" m_is_number) : Fn P w K mg base 2 "is_rank" m_is_rank :=
  nfun (k := 1) DD sc_is_rank fun f cdv A outer s H E hr => by
  have hu := hr.units
  have nd := sc_is_rank.nd
  exact (ns_seq (ns_ret (n_or (n_cmp c_is (n_var 0) n_non) (n_one (n_call h_is_number (n_cons (n_var 0) (n_cons n_int (n_cons (n_bin o_pow n_int n_int) n_nil))) hr))))
  ns_nil)
abbrev s_is_right : Stmt := topS 16
theorem sc_is_right : FnScope ["board", "value", "who", "i", "rows", "j", "even", "row"] ["board", "value", "who", "i"] (defScope s_is_right) := ⟨rfl, rfl, rfl, by decide +kernel, rfl, by decide +kernel, by decide +kernel⟩
theorem c_is_right (DD : Dfn K mg "is_right" s_is_right ["board", "value", "who", "i"]) (n : Nm mg) (g : Gm K mg) (h_moves_of : Fn P w K mg base 1 "moves_of" m_moves_of) (h_other_one : Fn P w K mg base 1 "other_one" m_other_one) (h_rank_of : Fn P w K mg base 1 "rank_of" m_rank_of) : Fn P w K mg base 2 "is_right" m_is_right :=
  nfun (k := 1) DD sc_is_right fun f cdv A outer s H E hr => by
  have hu := hr.units
  have nd := sc_is_right.nd
  exact (ns_seq (ns_setLc 4 (ni_seq (n_it hu (n_call h_moves_of (n_cons (n_var 0) (n_cons (n_var 2) n_nil)) hr) (n_var 3))) (fun z => (ng_name 5 nd)) (fun z => nts_nil) (fun z => (n_call h_rank_of (n_cons (n_var 1) (n_cons (n_call h_other_one (n_cons (n_var 2) n_nil) hr) (n_cons (n_var 5) n_nil))) hr)) nd (blkOk_by (own := [("j", 5)]) (by kernel_rfl)))
  (ns_seq (ns_setLc 6 (ni_seq (n_var 4)) (fun z => (ng_name 7 nd)) (fun z => (nts_one (nt_bo (nw_and (nt_cmp c_isnot (n_var 7) n_non) (nw_and1 (nt_cmp (c_eq hu) (n_bin o_mod (n_var 7) n_int) n_int)))))) (fun z => (n_var 7)) nd (blkOk_by (own := [("row", 7)]) (by kernel_rfl)))
  (ns_seq (ns_if (nt_val (n_var 6)) (ns_seq (ns_ret (n_cmp (c_eq hu) (n_call h_rank_of (n_cons (n_var 1) (n_cons (n_var 2) (n_cons (n_var 3) n_nil))) hr) (n_bin o_add (n_callB (b_minL rfl) (n_cons (n_var 6) n_nil) n.n_min) n_int)))
  ns_nil) ns_nil)
  (ns_seq (ns_if (nt_val (n_callB (b_any rfl) (n_cons (n_lc (ni_seq (n_var 4)) (fun z => (ng_name 7 nd)) (fun z => nts_nil) (fun z => (n_cmp c_is (n_var 7) n_non)) nd (blkOk_by (own := [("row", 7)]) (by kernel_rfl))) n_nil) n.n_any)) (ns_seq (ns_ret (n_cmp c_is (n_call h_rank_of (n_cons (n_var 1) (n_cons (n_var 2) (n_cons (n_var 3) n_nil))) hr) n_non))
  ns_nil) ns_nil)
  (ns_seq (ns_ret (n_cmp (c_eq hu) (n_call h_rank_of (n_cons (n_var 1) (n_cons (n_var 2) (n_cons (n_var 3) n_nil))) hr) (n_callB (b_maxL rfl) (n_cons (n_bin o_add (n_lc (ni_seq (n_var 4)) (fun z => (ng_name 7 nd)) (fun z => nts_nil) (fun z => (n_bin o_add (n_var 7) n_int)) nd (blkOk_by (own := [("row", 7)]) (by kernel_rfl))) (n_lst (n_cons n_int n_nil))) n_nil) n.n_max)))
  ns_nil)))))
abbrev s_are_ranks : Stmt := topS 15
theorem sc_are_ranks : FnScope ["board", "value", "n", "rank", "row", "who", "i"] ["board", "value"] (defScope s_are_ranks) := ⟨rfl, rfl, rfl, by decide +kernel, rfl, by decide +kernel, by decide +kernel⟩
theorem c_are_ranks (DD : Dfn K mg "are_ranks" s_are_ranks ["board", "value"]) (n : Nm mg) (g : Gm K mg) (h_is_rank : Fn P w K mg base 2 "is_rank" m_is_rank) (h_is_right : Fn P w K mg base 2 "is_right" m_is_right) : Fn P w K mg base 3 "are_ranks" m_are_ranks :=
  nfun (k := 2) DD sc_are_ranks fun f cdv A outer s H E hr => by
  have hu := hr.units
  have nd := sc_are_ranks.nd
  exact (ns_seq (ns_set 2 (n_callB b_len (n_cons (n_it hu (n_var 0) n_int) n_nil) n.n_len) nd)
  (ns_seq (ns_if (nt_bo (nw_or (nt_not (nt_val (n_isi .tup (n_var 1) n.n_isinstance n.n_tuple))) (nw_or1 (nt_cmp (c_ne hu) (n_callB b_len (n_cons (n_var 1) n_nil) n.n_len) n_int)))) (ns_seq (ns_ret n_bl)
  ns_nil) ns_nil)
  (ns_seq (ns_if (nt_not (nt_val (n_callB (b_all rfl) (n_cons (n_lc (ni_seq (n_var 1)) (fun z => (ng_name 4 nd)) (fun z => nts_nil) (fun z => (n_and (n_isi .tup (n_var 4) n.n_isinstance n.n_tuple) (n_and (n_cmp (c_eq hu) (n_callB b_len (n_cons (n_var 4) n_nil) n.n_len) (n_var 2)) (n_one (n_callB (b_all rfl) (n_cons (n_lc (ni_seq (n_var 4)) (fun z => (ng_name 3 nd)) (fun z => nts_nil) (fun z => (n_call h_is_rank (n_cons (n_var 3) n_nil) hr)) nd (blkOk_by (own := [("rank", 3)]) (by kernel_rfl))) n_nil) n.n_all))))) nd (blkOk_by (own := [("row", 4)]) (by kernel_rfl))) n_nil) n.n_all))) (ns_seq (ns_ret n_bl)
  ns_nil) ns_nil)
  (ns_seq (ns_ret (n_callB (b_all rfl) (n_cons (n_lc2 (ni_seq (n_globK g.SIDES)) (fun z => (ng_name 5 nd)) (fun z => nts_nil) (fun z => (ni_rng1 (n_cons (n_var 2) n_nil) n.n_range)) (fun z => (ng_name 6 nd)) (fun z => nts_nil) (fun z => (n_call h_is_right (n_cons (n_var 0) (n_cons (n_var 1) (n_cons (n_var 5) (n_cons (n_var 6) n_nil)))) hr)) nd (blkOk_by (own := [("who", 5), ("i", 6)]) (by kernel_rfl))) n_nil) n.n_all))
  ns_nil))))
abbrev s_best_by : Stmt := topS 18
theorem sc_best_by : FnScope ["rows", "board", "place", "who", "rank", "further", "there"] ["rows", "board", "place", "who"] (defScope s_best_by) := ⟨rfl, rfl, rfl, by decide +kernel, rfl, by decide +kernel, by decide +kernel⟩
theorem c_best_by (DD : Dfn K mg "best_by" s_best_by ["rows", "board", "place", "who"]) (n : Nm mg) (g : Gm K mg) (h_moves_of : Fn P w K mg base 1 "moves_of" m_moves_of) (h_other_one : Fn P w K mg base 1 "other_one" m_other_one) (h_rank_of : Fn P w K mg base 1 "rank_of" m_rank_of) : Fn P w K mg base 2 "best_by" m_best_by :=
  nfun (k := 1) DD sc_best_by fun f cdv A outer s H E hr => by
  have hu := hr.units
  have nd := sc_best_by.nd
  exact (ns_seq (ns_set 4 (n_call h_rank_of (n_cons (n_var 0) (n_cons (n_var 3) (n_cons (n_var 2) n_nil))) hr) nd)
  (ns_seq (ns_for (vs := [5]) (ni_seq (n_it hu (n_call h_moves_of (n_cons (n_var 1) (n_cons (n_var 3) n_nil)) hr) (n_var 2))) (ng_name 5 nd) (ns_seq (ns_set 6 (n_call h_rank_of (n_cons (n_var 0) (n_cons (n_call h_other_one (n_cons (n_var 3) n_nil) hr) (n_cons (n_var 5) n_nil))) hr) nd)
  (ns_seq (ns_if (nt_bo (nw_or (nt_bo (nw_and (nt_cmp c_is (n_var 6) n_non) (nw_and1 (nt_cmp c_is (n_var 4) n_non)))) (nw_or1 (nt_bo (nw_and (nt_cmp c_isnot (n_var 4) n_non) (nw_and (nt_cmp c_isnot (n_var 6) n_non) (nw_and1 (nt_cmp (c_eq hu) (n_var 6) (n_bin o_sub (n_var 4) n_int))))))))) (ns_seq (ns_ret (n_var 5))
  ns_nil) ns_nil)
  ns_nil)) PassesOwn.never)
  (ns_seq (ns_ret n_non)
  ns_nil)))
abbrev s_best_move : Stmt := topS 17
theorem sc_best_move : FnScope ["board", "place", "who"] ["board", "place", "who"] (defScope s_best_move) := ⟨rfl, rfl, rfl, by decide +kernel, rfl, by decide +kernel, by decide +kernel⟩
theorem c_best_move (DD : Dfn K mg "best_move" s_best_move ["board", "place", "who"]) (n : Nm mg) (g : Gm K mg) (h_best_by : Fn P w K mg base 2 "best_by" m_best_by) (h_ranks : Fn P w K mg base 3 "ranks" m_ranks) : Fn P w K mg base 4 "best_move" m_best_move :=
  nfun (k := 3) DD sc_best_move fun f cdv A outer s H E hr => by
  have hu := hr.units
  have nd := sc_best_move.nd
  exact (ns_seq (ns_ret (n_call h_best_by (n_cons (n_call h_ranks (n_cons (n_var 0) n_nil) hr) (n_cons (n_var 0) (n_cons (n_var 1) (n_cons (n_var 2) n_nil)))) hr))
  ns_nil)
abbrev s_line_of : Stmt := topS 19
theorem sc_line_of : FnScope ["board", "place", "who", "limit", "found", "rows", "further"] ["board", "place", "who", "limit"] (defScope s_line_of) := ⟨rfl, rfl, rfl, by decide +kernel, rfl, by decide +kernel, by decide +kernel⟩
theorem c_line_of (DD : Dfn K mg "line_of" s_line_of ["board", "place", "who", "limit"]) (n : Nm mg) (g : Gm K mg) (h_best_by : Fn P w K mg base 2 "best_by" m_best_by) (h_other_one : Fn P w K mg base 1 "other_one" m_other_one) (h_ranks : Fn P w K mg base 3 "ranks" m_ranks) : Fn P w K mg base 4 "line_of" m_line_of :=
  nfun (k := 3) DD sc_line_of fun f cdv A outer s H E hr => by
  have hu := hr.units
  have nd := sc_line_of.nd
  exact (ns_seq (ns_par2 4 5 (n_cons (n_lst (n_cons (n_var 1) n_nil)) (n_cons (n_call h_ranks (n_cons (n_var 0) n_nil) hr) n_nil)) nd)
  (ns_seq (ns_while (nt_cmp c_le (n_callB b_len (n_cons (n_var 4) n_nil) n.n_len) (n_var 3)) (ns_seq (ns_set 6 (n_call h_best_by (n_cons (n_var 5) (n_cons (n_var 0) (n_cons (n_it hu (n_var 4) (n_neg n_int)) (n_cons (n_var 2) n_nil)))) hr) nd)
  (ns_seq (ns_if (nt_cmp c_is (n_var 6) n_non) (ns_seq ns_bk
  ns_nil) ns_nil)
  (ns_seq (ns_expr (n_meth f_app (n_var 4) (n_cons (n_var 6) n_nil) PySem.F.slot_list_append PySem.F.type_list_append))
  (ns_seq (ns_set 2 (n_call h_other_one (n_cons (n_var 2) n_nil) hr) nd)
  ns_nil)))) PassesOwn.never)
  (ns_seq (ns_ret (n_callT b_tuple (n_cons (n_var 4) n_nil) n.n_tuple))
  ns_nil)))
abbrev s__law_box : Stmt := topS 21
theorem sc__law_box : FnScope ["script"] ["script"] (defScope s__law_box) := ⟨rfl, rfl, rfl, by decide +kernel, rfl, by decide +kernel, by decide +kernel⟩
theorem c__law_box (DD : Dfn K mg "_law_box" s__law_box ["script"]) (n : Nm mg) (g : Gm K mg)  : Fn P w K mg base 1 "_law_box" m__law_box :=
  nfun (k := 0) DD sc__law_box fun f cdv A outer s H E hr => by
  have hu := hr.units
  have nd := sc__law_box.nd
  exact (ns_seq (ns_ret (n_lst (n_cons (n_callT b_list (n_cons (n_sl (n_var 0) no_none (no_some n_int)) n_nil) n.n_list) (n_cons n_int (n_cons (n_bin o_add n_int (n_callB b_len (n_cons (n_var 0) n_nil) n.n_len)) n_nil)))))
  ns_nil)
abbrev s__law_load : Stmt := topS 22
theorem sc__law_load : FnScope ["box", "cells", "cell", "size", "first", "second"] ["box"] (defScope s__law_load) := ⟨rfl, rfl, rfl, by decide +kernel, rfl, by decide +kernel, by decide +kernel⟩
theorem c__law_load (DD : Dfn K mg "_law_load" s__law_load ["box"]) (n : Nm mg) (g : Gm K mg)  : Fn P w K mg base 1 "_law_load" m__law_load :=
  nfun (k := 0) DD sc__law_load fun f cdv A outer s H E hr => by
  have hu := hr.units
  have nd := sc__law_load.nd
  exact (ns_seq (ns_set 1 (n_it hu (n_var 0) n_int) nd)
  (ns_seq (ns_if (nt_cmp c_gt (n_callB b_len (n_cons (n_var 1) n_nil) n.n_len) n_int) (ns_seq (ns_set 2 (n_callT b_int (n_cons (n_meth f_popAt (n_var 1) (n_cons n_int n_nil) PySem.F.slot_list_pop PySem.F.type_list_pop) n_nil) n.n_int) nd)
  (ns_seq (ns_set 3 (n_ite (nt_cmp c_ge (n_var 2) n_int) (n_bin o_mul n_int (n_var 2)) (n_bin o_sub (n_bin o_mul (n_neg n_int) (n_var 2)) n_int)) nd)
  (ns_seq (ns_if (nt_cmp c_ge (n_var 3) n_int) (ns_seq (ns_ret (n_var 3))
  ns_nil) ns_nil)
  (ns_seq (ns_pu hu (n_bin o_mod (n_callT b_int (n_cons (n_bin o_add (n_bin o_add (n_bin o_mul (n_it hu (n_var 0) n_int) n_int) (n_bin o_mul (n_var 3) n_int)) n_int) n_nil) n.n_int) n_int) (n_var 0) n_int)
  ns_nil)))) ns_nil)
  (ns_seq (ns_set 4 (n_bin o_mod (n_callT b_int (n_cons (n_bin o_add (n_bin o_mul (n_it hu (n_var 0) n_int) n_int) n_int) n_nil) n.n_int) n_int) nd)
  (ns_seq (ns_set 5 (n_bin o_mod (n_callT b_int (n_cons (n_bin o_add (n_bin o_mul (n_var 4) n_int) n_int) n_nil) n.n_int) n_int) nd)
  (ns_seq (ns_pu hu (n_bin o_mod (n_callT b_int (n_cons (n_bin o_add (n_bin o_mul (n_var 5) n_int) n_int) n_nil) n.n_int) n_int) (n_var 0) n_int)
  (ns_seq (ns_ret (n_bin o_add (n_bin o_add (n_bin o_mul (n_var 4) n_int) (n_bin o_mul (n_var 5) n_int)) (n_it hu (n_var 0) n_int)))
  ns_nil))))))
abbrev s__law_draw : Stmt := topS 23
theorem sc__law_draw : FnScope ["box", "many", "digit"] ["box", "many"] (defScope s__law_draw) := ⟨rfl, rfl, rfl, by decide +kernel, rfl, by decide +kernel, by decide +kernel⟩
theorem c__law_draw (DD : Dfn K mg "_law_draw" s__law_draw ["box", "many"]) (n : Nm mg) (g : Gm K mg) (h__law_load : Fn P w K mg base 1 "_law_load" m__law_load) : Fn P w K mg base 2 "_law_draw" m__law_draw :=
  nfun (k := 1) DD sc__law_draw fun f cdv A outer s H E hr => by
  have hu := hr.units
  have nd := sc__law_draw.nd
  exact (ns_seq (ns_if (nt_cmp c_lt (n_it hu (n_var 0) n_int) (n_var 1)) (ns_seq (ns_pu hu (n_call h__law_load (n_cons (n_var 0) n_nil) hr) (n_var 0) n_int)
  ns_nil) ns_nil)
  (ns_seq (ns_set 2 (n_bin o_mod (n_callT b_int (n_cons (n_it hu (n_var 0) n_int) n_nil) n.n_int) (n_var 1)) nd)
  (ns_seq (ns_pu hu (n_bin o_div (n_it hu (n_var 0) n_int) (n_var 1)) (n_var 0) n_int)
  (ns_seq (ns_ret (n_var 2))
  ns_nil))))
abbrev s__law_same : Stmt := topS 24
theorem sc__law_same : FnScope ["a", "b", "k"] ["a", "b"] (defScope s__law_same) := ⟨rfl, rfl, rfl, by decide +kernel, rfl, by decide +kernel, by decide +kernel⟩
theorem cb__law_same (DD : Dfn K mg "_law_same" s__law_same ["a", "b"]) (n : Nm mg) (g : Gm K mg)  {k : Nat} {rec : FA} (h__law_same : Fn P w K mg base (1 + k) "_law_same" rec) : Fn P w K mg base (1 + (k + 1)) "_law_same" (fnR 2 3 false (b__law_same rec)) :=
  nfun (k := 1 + k) DD sc__law_same fun f cdv A outer s H E hr => by
  have hu := hr.units
  have nd := sc__law_same.nd
  exact (ns_seq (ns_if (nt_bo (nw_or (nt_bo (nw_and (nt_val (n_isi .tup (n_var 0) n.n_isinstance n.n_tuple)) (nw_and1 (nt_val (n_isi .tup (n_var 1) n.n_isinstance n.n_tuple))))) (nw_or1 (nt_bo (nw_and (nt_val (n_isi .lst (n_var 0) n.n_isinstance n.n_list)) (nw_and1 (nt_val (n_isi .lst (n_var 1) n.n_isinstance n.n_list)))))))) (ns_seq (ns_ret (n_and (n_cmp (c_eq hu) (n_callB b_len (n_cons (n_var 0) n_nil) n.n_len) (n_callB b_len (n_cons (n_var 1) n_nil) n.n_len)) (n_one (n_callB (b_all rfl) (n_cons (n_lc (ni_rng1 (n_cons (n_callB b_len (n_cons (n_var 0) n_nil) n.n_len) n_nil) n.n_range) (fun z => (ng_name 2 nd)) (fun z => nts_nil) (fun z => (n_call h__law_same (n_cons (n_it hu (n_var 0) (n_var 2)) (n_cons (n_it hu (n_var 1) (n_var 2)) n_nil)) hr)) nd (blkOk_by (own := [("k", 2)]) (by kernel_rfl))) n_nil) n.n_all))))
  ns_nil) ns_nil)
  (ns_seq (ns_if (nt_bo (nw_or (nt_val (n_isi .bl (n_var 0) n.n_isinstance n.n_bool)) (nw_or1 (nt_val (n_isi .bl (n_var 1) n.n_isinstance n.n_bool))))) (ns_seq (ns_ret (n_and (n_isi .bl (n_var 0) n.n_isinstance n.n_bool) (n_and (n_isi .bl (n_var 1) n.n_isinstance n.n_bool) (n_one (n_cmp (c_eq hu) (n_var 0) (n_var 1))))))
  ns_nil) ns_nil)
  (ns_seq (ns_if (nt_bo (nw_or (nt_bo (nw_and (nt_val (n_isi .int (n_var 0) n.n_isinstance n.n_int)) (nw_and1 (nt_val (n_isi .int (n_var 1) n.n_isinstance n.n_int))))) (nw_or1 (nt_bo (nw_and (nt_val (n_isi .str (n_var 0) n.n_isinstance n.n_str)) (nw_and1 (nt_val (n_isi .str (n_var 1) n.n_isinstance n.n_str)))))))) (ns_seq (ns_ret (n_cmp (c_eq hu) (n_var 0) (n_var 1)))
  ns_nil) ns_nil)
  (ns_seq (ns_ret (n_and (n_cmp c_is (n_var 0) n_non) (n_one (n_cmp c_is (n_var 1) n_non))))
  ns_nil))))
theorem c__law_same (DD : Dfn K mg "_law_same" s__law_same ["a", "b"]) (n : Nm mg) (g : Gm K mg)  : ∀ k : Nat, Fn P w K mg base (1 + k) "_law_same" (m__law_same k)
  | 0 => (nfun_none (k := 0) DD sc__law_same).mono (by omega)
  | k + 1 => cb__law_same DD n g  (c__law_same DD n g  k)
abbrev s__law_bent : Stmt := topS 25
theorem sc__law_bent : FnScope ["box", "value", "at", "pick"] ["box", "value"] (defScope s__law_bent) := ⟨rfl, rfl, rfl, by decide +kernel, rfl, by decide +kernel, by decide +kernel⟩
theorem cb__law_bent (DD : Dfn K mg "_law_bent" s__law_bent ["box", "value"]) (n : Nm mg) (g : Gm K mg) (h__law_draw : Fn P w K mg base 2 "_law_draw" m__law_draw) {k : Nat} {rec : FA} (h__law_bent : Fn P w K mg base (3 + k) "_law_bent" rec) : Fn P w K mg base (3 + (k + 1)) "_law_bent" (fnR 2 4 false (b__law_bent rec)) :=
  nfun (k := 3 + k) DD sc__law_bent fun f cdv A outer s H E hr => by
  have hu := hr.units
  have nd := sc__law_bent.nd
  exact (ns_seq (ns_if (nt_bo (nw_and (nt_val (n_isi .tup (n_var 1) n.n_isinstance n.n_tuple)) (nw_and (nt_cmp c_gt (n_callB b_len (n_cons (n_var 1) n_nil) n.n_len) n_int) (nw_and1 (nt_cmp c_gt (n_call h__law_draw (n_cons (n_var 0) (n_cons n_int n_nil)) hr) n_int))))) (ns_seq (ns_set 2 (n_call h__law_draw (n_cons (n_var 0) (n_cons (n_callB b_len (n_cons (n_var 1) n_nil) n.n_len) n_nil)) hr) nd)
  (ns_seq (ns_ret (n_bin o_add (n_bin o_add (n_sl (n_var 1) no_none (no_some (n_var 2))) (n_tup (n_cons (n_call h__law_bent (n_cons (n_var 0) (n_cons (n_it hu (n_var 1) (n_var 2)) n_nil)) hr) n_nil))) (n_sl (n_var 1) (no_some (n_bin o_add (n_var 2) n_int)) no_none)))
  ns_nil)) ns_nil)
  (ns_seq (ns_set 3 (n_call h__law_draw (n_cons (n_var 0) (n_cons n_int n_nil)) hr) nd)
  (ns_seq (ns_if (nt_val (n_isi .tup (n_var 1) n.n_isinstance n.n_tuple)) (ns_seq (ns_ret (n_it hu (n_lst (n_cons (n_bin o_add (n_var 1) (n_sl (n_var 1) no_none (no_some n_int))) (n_cons (n_sl (n_var 1) (no_some n_int) no_none) (n_cons (n_rev (n_var 1)) (n_cons (n_bin o_add (n_var 1) (n_tup (n_cons n_int n_nil))) (n_cons (n_bin o_add (n_sl (n_var 1) no_none (no_some n_int)) (n_var 1)) (n_cons (n_sl (n_var 1) no_none (no_some (n_neg n_int))) (n_cons n_non (n_cons (n_sl (n_var 1) no_none (no_some n_int)) n_nil))))))))) (n_var 3)))
  ns_nil) ns_nil)
  (ns_seq (ns_if (nt_bo (nw_and (nt_val (n_isi .int (n_var 1) n.n_isinstance n.n_int)) (nw_and1 (nt_not (nt_val (n_isi .bl (n_var 1) n.n_isinstance n.n_bool)))))) (ns_seq (ns_ret (n_it hu (n_lst (n_cons (n_bin o_add (n_var 1) n_int) (n_cons (n_bin o_sub (n_var 1) n_int) (n_cons (n_neg (n_var 1)) (n_cons (n_cmp (c_eq hu) (n_var 1) n_int) (n_cons n_non (n_cons (n_callT b_str (n_cons (n_var 1) n_nil) n.n_str) (n_cons (n_tup (n_cons (n_var 1) n_nil)) (n_cons (n_bin o_add (n_var 1) n_int) n_nil))))))))) (n_var 3)))
  ns_nil) ns_nil)
  (ns_seq (ns_if (nt_val (n_isi .str (n_var 1) n.n_isinstance n.n_str)) (ns_seq (ns_ret (n_it hu (n_lst (n_cons (n_bin o_add (n_var 1) n_str) (n_cons (n_sl (n_var 1) (no_some n_int) no_none) (n_cons n_str (n_cons (n_upper (n_var 1)) (n_cons n_int (n_cons n_str (n_cons (n_bin o_add (n_var 1) n_str) (n_cons (n_tup (n_cons (n_var 1) n_nil)) n_nil))))))))) (n_var 3)))
  ns_nil) ns_nil)
  (ns_seq (ns_ret (n_it hu (n_lst (n_cons n_int (n_cons n_int (n_cons n_non (n_cons n_bl (n_cons n_bl (n_cons n_str (n_cons (n_tup n_nil) (n_cons (n_neg n_int) n_nil))))))))) (n_var 3)))
  ns_nil))))))
theorem c__law_bent (DD : Dfn K mg "_law_bent" s__law_bent ["box", "value"]) (n : Nm mg) (g : Gm K mg) (h__law_draw : Fn P w K mg base 2 "_law_draw" m__law_draw) : ∀ k : Nat, Fn P w K mg base (3 + k) "_law_bent" (m__law_bent k)
  | 0 => (nfun_none (k := 0) DD sc__law_bent).mono (by omega)
  | k + 1 => cb__law_bent DD n g h__law_draw (c__law_bent DD n g h__law_draw k)
abbrev s__law_board : Stmt := topS 26
theorem sc__law_board : FnScope ["box", "most", "n", "sides", "side", "rows", "place", "step"] ["box", "most"] (defScope s__law_board) := ⟨rfl, rfl, rfl, by decide +kernel, rfl, by decide +kernel, by decide +kernel⟩
theorem c__law_board (DD : Dfn K mg "_law_board" s__law_board ["box", "most"]) (n : Nm mg) (g : Gm K mg) (h__law_draw : Fn P w K mg base 2 "_law_draw" m__law_draw) : Fn P w K mg base 3 "_law_board" m__law_board :=
  nfun (k := 2) DD sc__law_board fun f cdv A outer s H E hr => by
  have hu := hr.units
  have nd := sc__law_board.nd
  exact (ns_seq (ns_set 2 (n_bin o_add n_int (n_call h__law_draw (n_cons (n_var 0) (n_cons (n_var 1) n_nil)) hr)) nd)
  (ns_seq (ns_set 3 (n_lst n_nil) nd)
  (ns_seq (ns_for (vs := [4]) (ni_tup (n_tup (n_cons n_int (n_cons n_int n_nil)))) (ng_name 4 nd) (ns_seq (ns_set 5 (n_lst n_nil) nd)
  (ns_seq (ns_for (vs := [6]) (ni_rng1 (n_cons (n_var 2) n_nil) n.n_range) (ng_name 6 nd) (ns_seq (ns_expr (n_meth f_app (n_var 5) (n_cons (n_callT b_tuple (n_cons (n_srtSetI (n_lc (ni_rng1 (n_cons (n_call h__law_draw (n_cons (n_var 0) (n_cons n_int n_nil)) hr) n_nil) n.n_range) (fun z => (ng_name 7 nd)) (fun z => nts_nil) (fun z => (n_call h__law_draw (n_cons (n_var 0) (n_cons (n_var 2) n_nil)) hr)) nd (blkOk_by (own := [("step", 7)]) (by kernel_rfl))) n.n_sorted n.n_set) n_nil) n.n_tuple) n_nil) PySem.F.slot_list_append PySem.F.type_list_append))
  ns_nil) PassesOwn.never)
  (ns_seq (ns_expr (n_meth f_app (n_var 3) (n_cons (n_callT b_tuple (n_cons (n_var 5) n_nil) n.n_tuple) n_nil) PySem.F.slot_list_append PySem.F.type_list_append))
  ns_nil))) PassesOwn.never)
  (ns_seq (ns_ret (n_callT b_tuple (n_cons (n_var 3) n_nil) n.n_tuple))
  ns_nil))))
abbrev s__law_other : Stmt := topS 27
theorem sc__law_other : FnScope ["who"] ["who"] (defScope s__law_other) := ⟨rfl, rfl, rfl, by decide +kernel, rfl, by decide +kernel, by decide +kernel⟩
theorem c__law_other (DD : Dfn K mg "_law_other" s__law_other ["who"]) (n : Nm mg) (g : Gm K mg)  : Fn P w K mg base 1 "_law_other" m__law_other :=
  nfun (k := 0) DD sc__law_other fun f cdv A outer s H E hr => by
  have hu := hr.units
  have nd := sc__law_other.nd
  exact (ns_seq (ns_ret (n_ite (nt_cmp (c_eq hu) (n_var 0) n_str) n_str n_str))
  ns_nil)
abbrev s__law_moves : Stmt := topS 28
theorem sc__law_moves : FnScope ["board", "place", "who"] ["board", "place", "who"] (defScope s__law_moves) := ⟨rfl, rfl, rfl, by decide +kernel, rfl, by decide +kernel, by decide +kernel⟩
theorem c__law_moves (DD : Dfn K mg "_law_moves" s__law_moves ["board", "place", "who"]) (n : Nm mg) (g : Gm K mg)  : Fn P w K mg base 1 "_law_moves" m__law_moves :=
  nfun (k := 0) DD sc__law_moves fun f cdv A outer s H E hr => by
  have hu := hr.units
  have nd := sc__law_moves.nd
  exact (ns_seq (ns_ret (n_it hu (n_it hu (n_var 0) (n_ite (nt_cmp (c_eq hu) (n_var 2) n_str) n_int n_int)) (n_var 1)))
  ns_nil)
abbrev s__law_ranks : Stmt := topS 29
theorem sc__law_ranks : FnScope ["board", "n", "found", "rank", "new", "place", "who", "there", "further", "won", "one", "lost", "point"] ["board"] (defScope s__law_ranks) := ⟨rfl, rfl, rfl, by decide +kernel, rfl, by decide +kernel, by decide +kernel⟩
theorem c__law_ranks (DD : Dfn K mg "_law_ranks" s__law_ranks ["board"]) (n : Nm mg) (g : Gm K mg) (h__law_moves : Fn P w K mg base 1 "_law_moves" m__law_moves) (h__law_other : Fn P w K mg base 1 "_law_other" m__law_other) : Fn P w K mg base 2 "_law_ranks" m__law_ranks :=
  nfun (k := 1) DD sc__law_ranks fun f cdv A outer s H E hr => by
  have hu := hr.units
  have nd := sc__law_ranks.nd
  exact (ns_seq (ns_parC2 1 2 (n_cons (n_callB b_len (n_cons (n_it hu (n_var 0) n_int) n_nil) n.n_len) (n_cons n_dic n_nil)) nd)
  (ns_seq (ns_for (vs := [3]) (ni_rng1 (n_cons (n_bin o_add (n_bin o_mul n_int (n_var 1)) n_int) n_nil) n.n_range) (ng_name 3 nd) (ns_seq (ns_set 4 (n_lst n_nil) nd)
  (ns_seq (ns_for (vs := [5]) (ni_rng1 (n_cons (n_var 1) n_nil) n.n_range) (ng_name 5 nd) (ns_seq (ns_for (vs := [6]) (ni_tup (n_tup (n_cons n_str (n_cons n_str n_nil)))) (ng_name 6 nd) (ns_seq (ns_if (nt_in (.inr ⟨rfl, rfl⟩) hu (n_tup (n_cons (n_var 5) (n_cons (n_var 6) n_nil))) (n_var 2)) (ns_seq (ns_setLc 7 (ni_seq (n_call h__law_moves (n_cons (n_var 0) (n_cons (n_var 5) (n_cons (n_var 6) n_nil))) hr)) (fun z => (ng_name 8 nd)) (fun z => nts_nil) (fun z => (n_getT hu (n_var 2) (n_cons (n_tup (n_cons (n_var 8) (n_cons (n_call h__law_other (n_cons (n_var 6) n_nil) hr) n_nil))) n_nil))) nd (blkOk_by (own := [("further", 8)]) (by kernel_rfl)))
  (ns_seq (ns_set 9 (n_callB (b_any rfl) (n_cons (n_lc (ni_seq (n_var 7)) (fun z => (ng_name 10 nd)) (fun z => nts_nil) (fun z => (n_and (n_cmp c_isnot (n_var 10) n_non) (n_one (n_cmp (c_eq hu) (n_bin o_mul (n_bin o_div (n_var 10) n_int) n_int) (n_var 10))))) nd (blkOk_by (own := [("one", 10)]) (by kernel_rfl))) n_nil) n.n_any) nd)
  (ns_seq (ns_set 11 (n_callB (b_all rfl) (n_cons (n_lc (ni_seq (n_var 7)) (fun z => (ng_name 10 nd)) (fun z => nts_nil) (fun z => (n_and (n_cmp c_isnot (n_var 10) n_non) (n_one (n_cmp (c_ne hu) (n_bin o_mul (n_bin o_div (n_var 10) n_int) n_int) (n_var 10))))) nd (blkOk_by (own := [("one", 10)]) (by kernel_rfl))) n_nil) n.n_all) nd)
  (ns_seq (ns_if (nt_bo (nw_or (nt_val (n_var 9)) (nw_or1 (nt_val (n_var 11))))) (ns_seq (ns_expr (n_meth f_app (n_var 4) (n_cons (n_tup (n_cons (n_var 5) (n_cons (n_var 6) n_nil))) n_nil) PySem.F.slot_list_append PySem.F.type_list_append))
  ns_nil) ns_nil)
  ns_nil)))) ns_nil)
  ns_nil) PassesOwn.never)
  ns_nil) PassesOwn.never)
  (ns_seq (ns_for (vs := [12]) (ni_seq (n_var 4)) (ng_name 12 nd) (ns_seq (ns_pu hu (n_var 3) (n_var 2) (n_var 12))
  ns_nil) PassesOwn.never)
  ns_nil))) PassesOwn.never)
  (ns_seq (ns_ret (n_callT b_tuple (n_cons (n_lc (ni_tup (n_tup (n_cons n_str (n_cons n_str n_nil)))) (fun z => (ng_name 6 nd)) (fun z => nts_nil) (fun z => (n_callT b_tuple (n_cons (n_lc (ni_rng1 (n_cons (n_var 1) n_nil) n.n_range) (fun z => (ng_name 5 nd)) (fun z => nts_nil) (fun z => (n_getT hu (n_var 2) (n_cons (n_tup (n_cons (n_var 5) (n_cons (n_var 6) n_nil))) n_nil))) nd (blkOk_by (own := [("place", 5)]) (by kernel_rfl))) n_nil) n.n_tuple)) nd (blkOk_by (own := [("who", 6)]) (by kernel_rfl))) n_nil) n.n_tuple))
  ns_nil)))
abbrev s__law_best : Stmt := topS 30
theorem sc__law_best : FnScope ["board", "rows", "place", "who", "rank", "further", "there"] ["board", "rows", "place", "who"] (defScope s__law_best) := ⟨rfl, rfl, rfl, by decide +kernel, rfl, by decide +kernel, by decide +kernel⟩
noncomputable def b__law_best : MS := (sSeq (sSet 4 (eIt (eIt (eVar 1) (eIte (tCmp cEq (eVar 3) (eC (.str "left"))) (eC (.int 0)) (eC (.int 1)))) (eVar 2)))
  (sSeq (sFor (iSeq (eCall m__law_moves (aCons (eVar 0) (aCons (eVar 2) (aCons (eVar 3) aNil))))) (gName 5) (sSeq (sSet 6 (eIt (eIt (eVar 1) (eIte (tCmp cEq (eVar 3) (eC (.str "left"))) (eC (.int 1)) (eC (.int 0)))) (eVar 5)))
  (sSeq (sIf (tOr (tAnd (tCmp (cIsN false) (eVar 4) (eC .none)) (tCmp (cIsN false) (eVar 6) (eC .none))) (tAnd (tCmp (cIsN true) (eVar 4) (eC .none)) (tAnd (tCmp (cIsN true) (eVar 6) (eC .none)) (tCmp cEq (eBin (oAdd false) (eVar 6) (eC (.int 1))) (eVar 4))))) (sSeq (sRet (eVar 5))
  sNil) sNil)
  sNil)) [5, 6])
  (sSeq (sRet (eC .none))
  sNil)))
noncomputable def m__law_best : FA := fnR 4 7 false b__law_best
theorem c__law_best (DD : Dfn K mg "_law_best" s__law_best ["board", "rows", "place", "who"]) (n : Nm mg) (g : Gm K mg) (h__law_moves : Fn P w K mg base 1 "_law_moves" m__law_moves) : Fn P w K mg base 2 "_law_best" m__law_best :=
  nfun (k := 1) DD sc__law_best fun f cdv A outer s H E hr => by
  have hu := hr.units
  have nd := sc__law_best.nd
  exact (ns_seq (ns_set 4 (n_it hu (n_it hu (n_var 1) (n_ite (nt_cmp (c_eq hu) (n_var 3) n_str) n_int n_int)) (n_var 2)) nd)
  (ns_seq (ns_for (vs := [5]) (ni_seq (n_call h__law_moves (n_cons (n_var 0) (n_cons (n_var 2) (n_cons (n_var 3) n_nil))) hr)) (ng_name 5 nd) (ns_seq (ns_set 6 (n_it hu (n_it hu (n_var 1) (n_ite (nt_cmp (c_eq hu) (n_var 3) n_str) n_int n_int)) (n_var 5)) nd)
  (ns_seq (ns_if (nt_bo (nw_or (nt_bo (nw_and (nt_cmp c_is (n_var 4) n_non) (nw_and1 (nt_cmp c_is (n_var 6) n_non)))) (nw_or1 (nt_bo (nw_and (nt_cmp c_isnot (n_var 4) n_non) (nw_and (nt_cmp c_isnot (n_var 6) n_non) (nw_and1 (nt_cmp (c_eq hu) (n_bin o_add (n_var 6) n_int) (n_var 4))))))))) (ns_seq (ns_ret (n_var 5))
  ns_nil) ns_nil)
  ns_nil)) PassesOwn.never)
  (ns_seq (ns_ret n_non)
  ns_nil)))
abbrev s__law_line : Stmt := topS 31
theorem sc__law_line : FnScope ["board", "rows", "place", "who", "limit", "found"] ["board", "rows", "place", "who", "limit"] (defScope s__law_line) := ⟨rfl, rfl, rfl, by decide +kernel, rfl, by decide +kernel, by decide +kernel⟩
noncomputable def b__law_line : MS := (sSeq (sSet 5 (eLst true (aCons (eVar 2) aNil)))
  (sSeq (sWhile (tAnd (tCmp cLe (eCall bLen (aCons (eVar 5) aNil)) (eVar 4)) (tCmp (cIsN true) (eCall m__law_best (aCons (eVar 0) (aCons (eVar 1) (aCons (eIt (eVar 5) (eNeg (eC (.int 1)))) (aCons (eVar 3) aNil))))) (eC .none))) (sSeq (sExpr (eMeth fApp (eVar 5) (aCons (eCall m__law_best (aCons (eVar 0) (aCons (eVar 1) (aCons (eIt (eVar 5) (eNeg (eC (.int 1)))) (aCons (eVar 3) aNil))))) aNil)))
  (sSeq (sSet 3 (eCall m__law_other (aCons (eVar 3) aNil)))
  sNil)) [])
  (sSeq (sRet (eCall bTuple (aCons (eVar 5) aNil)))
  sNil)))
noncomputable def m__law_line : FA := fnR 5 6 false b__law_line
theorem c__law_line (DD : Dfn K mg "_law_line" s__law_line ["board", "rows", "place", "who", "limit"]) (n : Nm mg) (g : Gm K mg) (h__law_best : Fn P w K mg base 2 "_law_best" m__law_best) (h__law_other : Fn P w K mg base 1 "_law_other" m__law_other) : Fn P w K mg base 3 "_law_line" m__law_line :=
  nfun (k := 2) DD sc__law_line fun f cdv A outer s H E hr => by
  have hu := hr.units
  have nd := sc__law_line.nd
  exact (ns_seq (ns_set 5 (n_lst (n_cons (n_var 2) n_nil)) nd)
  (ns_seq (ns_while (nt_bo (nw_and (nt_cmp c_le (n_callB b_len (n_cons (n_var 5) n_nil) n.n_len) (n_var 4)) (nw_and1 (nt_cmp c_isnot (n_call h__law_best (n_cons (n_var 0) (n_cons (n_var 1) (n_cons (n_it hu (n_var 5) (n_neg n_int)) (n_cons (n_var 3) n_nil)))) hr) n_non)))) (ns_seq (ns_expr (n_meth f_app (n_var 5) (n_cons (n_call h__law_best (n_cons (n_var 0) (n_cons (n_var 1) (n_cons (n_it hu (n_var 5) (n_neg n_int)) (n_cons (n_var 3) n_nil)))) hr) n_nil) PySem.F.slot_list_append PySem.F.type_list_append))
  (ns_seq (ns_set 3 (n_call h__law_other (n_cons (n_var 3) n_nil) hr) nd)
  ns_nil)) PassesOwn.never)
  (ns_seq (ns_ret (n_callT b_tuple (n_cons (n_var 5) n_nil) n.n_tuple))
  ns_nil)))
abbrev s__law_winner : Stmt := topS 32
theorem sc__law_winner : FnScope ["rows", "place", "who", "rank"] ["rows", "place", "who"] (defScope s__law_winner) := ⟨rfl, rfl, rfl, by decide +kernel, rfl, by decide +kernel, by decide +kernel⟩
noncomputable def b__law_winner : MS := (sSeq (sSet 3 (eIt (eIt (eVar 0) (eIte (tCmp cEq (eVar 2) (eC (.str "left"))) (eC (.int 0)) (eC (.int 1)))) (eVar 1)))
  (sSeq (sRet (eIte (tCmp (cIsN false) (eVar 3) (eC .none)) (eC (.str "drawn")) (eIte (tCmp cNe (eBin oMul (eBin oDiv (eVar 3) (eC (.int 2))) (eC (.int 2))) (eVar 3)) (eVar 2) (eCall m__law_other (aCons (eVar 2) aNil)))))
  sNil))
noncomputable def m__law_winner : FA := fnR 3 4 false b__law_winner
theorem c__law_winner (DD : Dfn K mg "_law_winner" s__law_winner ["rows", "place", "who"]) (n : Nm mg) (g : Gm K mg) (h__law_other : Fn P w K mg base 1 "_law_other" m__law_other) : Fn P w K mg base 2 "_law_winner" m__law_winner :=
  nfun (k := 1) DD sc__law_winner fun f cdv A outer s H E hr => by
  have hu := hr.units
  have nd := sc__law_winner.nd
  exact (ns_seq (ns_set 3 (n_it hu (n_it hu (n_var 0) (n_ite (nt_cmp (c_eq hu) (n_var 2) n_str) n_int n_int)) (n_var 1)) nd)
  (ns_seq (ns_ret (n_ite (nt_cmp c_is (n_var 3) n_non) n_str (n_ite (nt_cmp (c_ne hu) (n_bin o_mul (n_bin o_div (n_var 3) n_int) n_int) (n_var 3)) (n_var 2) (n_call h__law_other (n_cons (n_var 2) n_nil) hr))))
  ns_nil))
abbrev s__law_fine : Stmt := topS 33
theorem sc__law_fine : FnScope ["box", "board", "n", "due", "k", "side", "values", "row", "one", "value", "step", "turn", "place", "who", "limit", "line", "rank"] ["box", "board"] (defScope s__law_fine) := ⟨rfl, rfl, rfl, by decide +kernel, rfl, by decide +kernel, by decide +kernel⟩
noncomputable def b__law_fine : MS := (sSeq (sAsg (gTup (gsLenOk 2 (gsCons (gName 2) (gsCons (gName 3) gsNil)))) (eTup (aCons (eCall bLen (aCons (eIt (eVar 1) (eC (.int 0))) aNil)) (aCons (eCall m__law_ranks (aCons (eVar 1) aNil)) aNil))))
  (sSeq (sIf (tOr (tNot (tVal (eCall (m__law_same 6) (aCons (eCall m_ranks (aCons (eVar 1) aNil)) (aCons (eVar 3) aNil))))) (tNot (tVal (eCall (m__law_same 6) (aCons (eCall m_ranks (aCons (eCall m_turned_board (aCons (eVar 1) aNil)) aNil)) (aCons (eRev false (eVar 3)) aNil)))))) (sSeq (sRet (eC (.bool false)))
  sNil) sNil)
  (sSeq (sIf (tAnd (tCmp (cIsB false) (eCall m_is_loopless (aCons (eVar 1) aNil)) (eC (.bool true))) (tOr (tCmp (cIn false) (eC .none) (eIt (eVar 3) (eC (.int 0)))) (tCmp (cIn false) (eC .none) (eIt (eVar 3) (eC (.int 1)))))) (sSeq (sRet (eC (.bool false)))
  sNil) sNil)
  (sSeq (sPar [4, 5] (aCons (eCall m__law_draw (aCons (eVar 0) (aCons (eVar 2) aNil))) (aCons (eCall m__law_draw (aCons (eVar 0) (aCons (eC (.int 2)) aNil))) aNil)))
  (sSeq (sSet 6 (eLst true (aCons (eVar 3) (aCons (eRev true (eVar 3)) (aCons (eSl true (eVar 3) oNone (oSome (eC (.int 1)))) (aCons (eBin (oAdd true) (eVar 3) (eTup (aCons (eTup aNil) aNil))) (aCons (eC .none) (aCons (eTup aNil) (aCons (eVar 2) (aCons (eTup (aCons (eBin oMul (eTup (aCons (eC .none) aNil)) (eVar 2)) (aCons (eBin oMul (eTup (aCons (eC .none) aNil)) (eVar 2)) aNil))) (aCons (eTup (aCons (eBin oMul (eTup (aCons (eC (.int 0)) aNil)) (eVar 2)) (aCons (eBin oMul (eTup (aCons (eC (.int 0)) aNil)) (eVar 2)) aNil))) (aCons (eCall bTuple (aCons (eLc false [7] (iSeq (eVar 3)) (gName 7) tTrue (eSl false (eVar 7) (oSome (eC (.int 1))) oNone)) aNil)) aNil))))))))))))
  (sSeq (sFor (iTupl (eTup (aCons (eC .none) (aCons (eC (.int 0)) (aCons (eC (.int 1)) (aCons (eC (.int 2)) (aCons (eC (.bool true)) (aCons (eBin (oAdd false) (eOr (eIt (eIt (eVar 3) (eVar 5)) (eVar 4)) (eC (.int 0))) (eC (.int 2))) aNil)))))))) (gName 8) (sSeq (sSet 7 (eBin (oAdd false) (eBin (oAdd false) (eSl false (eIt (eVar 3) (eVar 5)) oNone (oSome (eVar 4))) (eTup (aCons (eVar 8) aNil))) (eSl false (eIt (eVar 3) (eVar 5)) (oSome (eBin (oAdd false) (eVar 4) (eC (.int 1)))) oNone)))
  (sSeq (sExpr (eMeth fApp (eVar 6) (aCons (eIte (tCmp cEq (eVar 5) (eC (.int 0))) (eTup (aCons (eVar 7) (aCons (eIt (eVar 3) (eC (.int 1))) aNil))) (eTup (aCons (eIt (eVar 3) (eC (.int 0))) (aCons (eVar 7) aNil)))) aNil)))
  sNil)) [7, 8])
  (sSeq (sFor (iSeq (eBin (oAdd false) (eVar 6) (eLc false [10] (iRng1 (aCons (eC (.int 8)) aNil)) (gName 10) tTrue (eCall (m__law_bent 6) (aCons (eVar 0) (aCons (eVar 3) aNil)))))) (gName 9) (sSeq (sIf (tNot (tVal (eCall (m__law_same 6) (aCons (eCall m_are_ranks (aCons (eVar 1) (aCons (eVar 9) aNil))) (aCons (eCall (m__law_same 6) (aCons (eVar 9) (aCons (eVar 3) aNil))) aNil))))) (sSeq (sRet (eC (.bool false)))
  sNil) sNil)
  sNil) [9])
  (sSeq (sFor (iRng1 (aCons (eC (.int 4)) aNil)) (gName 11) (sSeq (sPar [12, 13, 14] (aCons (eCall m__law_draw (aCons (eVar 0) (aCons (eVar 2) aNil))) (aCons (eIt (eLst false (aCons (eC (.str "left")) (aCons (eC (.str "right")) aNil))) (eCall m__law_draw (aCons (eVar 0) (aCons (eC (.int 2)) aNil)))) (aCons (eCall m__law_draw (aCons (eVar 0) (aCons (eC (.int 30)) aNil))) aNil))))
  (sSeq (sIf (tOr (tNot (tVal (eCall (m__law_same 6) (aCons (eCall m_winner (aCons (eVar 1) (aCons (eVar 12) (aCons (eVar 13) aNil)))) (aCons (eCall m__law_winner (aCons (eVar 3) (aCons (eVar 12) (aCons (eVar 13) aNil)))) aNil))))) (tNot (tVal (eCall (m__law_same 6) (aCons (eCall m_best_move (aCons (eVar 1) (aCons (eVar 12) (aCons (eVar 13) aNil)))) (aCons (eCall m__law_best (aCons (eVar 1) (aCons (eVar 3) (aCons (eVar 12) (aCons (eVar 13) aNil))))) aNil)))))) (sSeq (sRet (eC (.bool false)))
  sNil) sNil)
  (sSeq (sSet 15 (eCall m__law_line (aCons (eVar 1) (aCons (eVar 3) (aCons (eVar 12) (aCons (eVar 13) (aCons (eVar 14) aNil)))))))
  (sSeq (sIf (tNot (tVal (eCall (m__law_same 6) (aCons (eCall m_line_of (aCons (eVar 1) (aCons (eVar 12) (aCons (eVar 13) (aCons (eVar 14) aNil))))) (aCons (eVar 15) aNil))))) (sSeq (sRet (eC (.bool false)))
  sNil) sNil)
  (sSeq (sSet 16 (eIt (eIt (eVar 3) (eIte (tCmp cEq (eVar 13) (eC (.str "left"))) (eC (.int 0)) (eC (.int 1)))) (eVar 12)))
  (sSeq (sIf (tOr (tAnd (tCmp (cIsN true) (eVar 16) (eC .none)) (tCmp cNe (eCall bLen (aCons (eVar 15) aNil)) (eBin (oAdd false) (eCall bMin2 (aCons (eVar 16) (aCons (eVar 14) aNil))) (eC (.int 1))))) (tAnd (tCmp (cIsN false) (eVar 16) (eC .none)) (tCmp cNe (eCall bLen (aCons (eVar 15) aNil)) (eBin (oAdd false) (eVar 14) (eC (.int 1)))))) (sSeq (sRet (eC (.bool false)))
  sNil) sNil)
  sNil)))))) [11, 12, 13, 14, 15, 16])
  (sSeq (sRet (eC (.bool true)))
  sNil)))))))))
noncomputable def m__law_fine : FA := fnR 2 17 false b__law_fine
theorem c__law_fine (DD : Dfn K mg "_law_fine" s__law_fine ["box", "board"]) (n : Nm mg) (g : Gm K mg) (h__law_bent : Fn P w K mg base 9 "_law_bent" (m__law_bent 6)) (h__law_best : Fn P w K mg base 2 "_law_best" m__law_best) (h__law_draw : Fn P w K mg base 2 "_law_draw" m__law_draw) (h__law_line : Fn P w K mg base 3 "_law_line" m__law_line) (h__law_ranks : Fn P w K mg base 2 "_law_ranks" m__law_ranks) (h__law_same : Fn P w K mg base 7 "_law_same" (m__law_same 6)) (h__law_winner : Fn P w K mg base 2 "_law_winner" m__law_winner) (h_are_ranks : Fn P w K mg base 3 "are_ranks" m_are_ranks) (h_best_move : Fn P w K mg base 4 "best_move" m_best_move) (h_is_loopless : Fn P w K mg base 1 "is_loopless" m_is_loopless) (h_line_of : Fn P w K mg base 4 "line_of" m_line_of) (h_ranks : Fn P w K mg base 3 "ranks" m_ranks) (h_turned_board : Fn P w K mg base 1 "turned_board" m_turned_board) (h_winner : Fn P w K mg base 4 "winner" m_winner) : Fn P w K mg base 10 "_law_fine" m__law_fine :=
  nfun (k := 9) DD sc__law_fine fun f cdv A outer s H E hr => by
  have hu := hr.units
  have nd := sc__law_fine.nd
  exact (ns_seq (ns_asg (vs := [2, 3]) (n_tup (n_cons (n_callB b_len (n_cons (n_it hu (n_var 1) n_int) n_nil) n.n_len) (n_cons (n_call h__law_ranks (n_cons (n_var 1) n_nil) hr) n_nil))) (ng_tup (ngs_cons (ng_name 2 nd) (ngs_cons (ng_name 3 nd) ngs_nil))))
  (ns_seq (ns_if (nt_bo (nw_or (nt_not (nt_val (n_call h__law_same (n_cons (n_call h_ranks (n_cons (n_var 1) n_nil) hr) (n_cons (n_var 3) n_nil)) hr))) (nw_or1 (nt_not (nt_val (n_call h__law_same (n_cons (n_call h_ranks (n_cons (n_call h_turned_board (n_cons (n_var 1) n_nil) hr) n_nil) hr) (n_cons (n_rev (n_var 3)) n_nil)) hr)))))) (ns_seq (ns_ret n_bl)
  ns_nil) ns_nil)
  (ns_seq (ns_if (nt_bo (nw_and (nt_cmp c_isB (n_call h_is_loopless (n_cons (n_var 1) n_nil) hr) n_bl) (nw_and1 (nt_bo (nw_or (nt_in (.inl ⟨rfl, rfl⟩) hu n_non (n_it hu (n_var 3) n_int)) (nw_or1 (nt_in (.inl ⟨rfl, rfl⟩) hu n_non (n_it hu (n_var 3) n_int)))))))) (ns_seq (ns_ret n_bl)
  ns_nil) ns_nil)
  (ns_seq (ns_par2 4 5 (n_cons (n_call h__law_draw (n_cons (n_var 0) (n_cons (n_var 2) n_nil)) hr) (n_cons (n_call h__law_draw (n_cons (n_var 0) (n_cons n_int n_nil)) hr) n_nil)) nd)
  (ns_seq (ns_set 6 (n_lst (n_cons (n_var 3) (n_cons (n_rev (n_var 3)) (n_cons (n_sl (n_var 3) no_none (no_some n_int)) (n_cons (n_bin o_add (n_var 3) (n_tup (n_cons (n_tup n_nil) n_nil))) (n_cons n_non (n_cons (n_tup n_nil) (n_cons (n_var 2) (n_cons (n_tup (n_cons (n_bin o_mul (n_tup (n_cons n_non n_nil)) (n_var 2)) (n_cons (n_bin o_mul (n_tup (n_cons n_non n_nil)) (n_var 2)) n_nil))) (n_cons (n_tup (n_cons (n_bin o_mul (n_tup (n_cons n_int n_nil)) (n_var 2)) (n_cons (n_bin o_mul (n_tup (n_cons n_int n_nil)) (n_var 2)) n_nil))) (n_cons (n_callT b_tuple (n_cons (n_lc (ni_seq (n_var 3)) (fun z => (ng_name 7 nd)) (fun z => nts_nil) (fun z => (n_sl (n_var 7) (no_some n_int) no_none)) nd (blkOk_by (own := [("row", 7)]) (by kernel_rfl))) n_nil) n.n_tuple) n_nil))))))))))) nd)
  (ns_seq (ns_for (vs := [8]) (ni_tup (n_tup (n_cons n_non (n_cons n_int (n_cons n_int (n_cons n_int (n_cons n_bl (n_cons (n_bin o_add (n_or (n_it hu (n_it hu (n_var 3) (n_var 5)) (n_var 4)) (n_one n_int)) n_int) n_nil)))))))) (ng_name 8 nd) (ns_seq (ns_set 7 (n_bin o_add (n_bin o_add (n_sl (n_it hu (n_var 3) (n_var 5)) no_none (no_some (n_var 4))) (n_tup (n_cons (n_var 8) n_nil))) (n_sl (n_it hu (n_var 3) (n_var 5)) (no_some (n_bin o_add (n_var 4) n_int)) no_none)) nd)
  (ns_seq (ns_expr (n_meth f_app (n_var 6) (n_cons (n_ite (nt_cmp (c_eq hu) (n_var 5) n_int) (n_tup (n_cons (n_var 7) (n_cons (n_it hu (n_var 3) n_int) n_nil))) (n_tup (n_cons (n_it hu (n_var 3) n_int) (n_cons (n_var 7) n_nil)))) n_nil) PySem.F.slot_list_append PySem.F.type_list_append))
  ns_nil)) PassesOwn.never)
  (ns_seq (ns_for (vs := [9]) (ni_seq (n_bin o_add (n_var 6) (n_lc (ni_rng1 (n_cons n_int n_nil) n.n_range) (fun z => (ng_name 10 nd)) (fun z => nts_nil) (fun z => (n_call h__law_bent (n_cons (n_var 0) (n_cons (n_var 3) n_nil)) hr)) nd (blkOk_by (own := [("step", 10)]) (by kernel_rfl))))) (ng_name 9 nd) (ns_seq (ns_if (nt_not (nt_val (n_call h__law_same (n_cons (n_call h_are_ranks (n_cons (n_var 1) (n_cons (n_var 9) n_nil)) hr) (n_cons (n_call h__law_same (n_cons (n_var 9) (n_cons (n_var 3) n_nil)) hr) n_nil)) hr))) (ns_seq (ns_ret n_bl)
  ns_nil) ns_nil)
  ns_nil) PassesOwn.never)
  (ns_seq (ns_for (vs := [11]) (ni_rng1 (n_cons n_int n_nil) n.n_range) (ng_name 11 nd) (ns_seq (ns_par3 12 13 14 (n_cons (n_call h__law_draw (n_cons (n_var 0) (n_cons (n_var 2) n_nil)) hr) (n_cons (n_it hu (n_lst (n_cons n_str (n_cons n_str n_nil))) (n_call h__law_draw (n_cons (n_var 0) (n_cons n_int n_nil)) hr)) (n_cons (n_call h__law_draw (n_cons (n_var 0) (n_cons n_int n_nil)) hr) n_nil))) nd)
  (ns_seq (ns_if (nt_bo (nw_or (nt_not (nt_val (n_call h__law_same (n_cons (n_call h_winner (n_cons (n_var 1) (n_cons (n_var 12) (n_cons (n_var 13) n_nil))) hr) (n_cons (n_call h__law_winner (n_cons (n_var 3) (n_cons (n_var 12) (n_cons (n_var 13) n_nil))) hr) n_nil)) hr))) (nw_or1 (nt_not (nt_val (n_call h__law_same (n_cons (n_call h_best_move (n_cons (n_var 1) (n_cons (n_var 12) (n_cons (n_var 13) n_nil))) hr) (n_cons (n_call h__law_best (n_cons (n_var 1) (n_cons (n_var 3) (n_cons (n_var 12) (n_cons (n_var 13) n_nil)))) hr) n_nil)) hr)))))) (ns_seq (ns_ret n_bl)
  ns_nil) ns_nil)
  (ns_seq (ns_set 15 (n_call h__law_line (n_cons (n_var 1) (n_cons (n_var 3) (n_cons (n_var 12) (n_cons (n_var 13) (n_cons (n_var 14) n_nil))))) hr) nd)
  (ns_seq (ns_if (nt_not (nt_val (n_call h__law_same (n_cons (n_call h_line_of (n_cons (n_var 1) (n_cons (n_var 12) (n_cons (n_var 13) (n_cons (n_var 14) n_nil)))) hr) (n_cons (n_var 15) n_nil)) hr))) (ns_seq (ns_ret n_bl)
  ns_nil) ns_nil)
  (ns_seq (ns_set 16 (n_it hu (n_it hu (n_var 3) (n_ite (nt_cmp (c_eq hu) (n_var 13) n_str) n_int n_int)) (n_var 12)) nd)
  (ns_seq (ns_if (nt_bo (nw_or (nt_bo (nw_and (nt_cmp c_isnot (n_var 16) n_non) (nw_and1 (nt_cmp (c_ne hu) (n_callB b_len (n_cons (n_var 15) n_nil) n.n_len) (n_bin o_add (n_callB (b_min2 rfl) (n_cons (n_var 16) (n_cons (n_var 14) n_nil)) n.n_min) n_int))))) (nw_or1 (nt_bo (nw_and (nt_cmp c_is (n_var 16) n_non) (nw_and1 (nt_cmp (c_ne hu) (n_callB b_len (n_cons (n_var 15) n_nil) n.n_len) (n_bin o_add (n_var 14) n_int)))))))) (ns_seq (ns_ret n_bl)
  ns_nil) ns_nil)
  ns_nil)))))) PassesOwn.never)
  (ns_seq (ns_ret n_bl)
  ns_nil)))))))))
abbrev s_law : Stmt := topS 34
theorem sc_law : FnScope ["script", "box", "turn", "n", "row", "k", "back", "ring"] ["script"] (defScope s_law) := ⟨rfl, rfl, rfl, by decide +kernel, rfl, by decide +kernel, by decide +kernel⟩
noncomputable def b_law : MS := (sSeq (sSet 1 (eCall m__law_box (aCons (eVar 0) aNil)))
  (sSeq (sFor (iRng1 (aCons (eC (.int 3)) aNil)) (gName 2) (sSeq (sIf (tNot (tVal (eCall m__law_fine (aCons (eVar 1) (aCons (eCall m__law_board (aCons (eVar 1) (aCons (eIt (eLst false (aCons (eC (.int 3)) (aCons (eC (.int 6)) (aCons (eC (.int 7)) aNil)))) (eVar 2)) aNil))) aNil))))) (sSeq (sRet (eC (.bool false)))
  sNil) sNil)
  sNil) [2])
  (sSeq (sSet 3 (eBin (oAdd false) (eC (.int 2)) (eCall m__law_draw (aCons (eVar 1) (aCons (eC (.int 39)) aNil)))))
  (sSeq (sSet 4 (eCall bTuple (aCons (eLc false [5] (iRng1 (aCons (eVar 3) aNil)) (gName 5) tTrue (eIte (tCmp cLt (eBin (oAdd false) (eVar 5) (eC (.int 1))) (eVar 3)) (eTup (aCons (eBin (oAdd false) (eVar 5) (eC (.int 1))) aNil)) (eTup aNil))) aNil)))
  (sSeq (sSet 6 (eCall bTuple (aCons (eLc false [5] (iRng1 (aCons (eVar 3) aNil)) (gName 5) tTrue (eIte (chK (fun i j => decide (i < j)) (fun i j => decide (i < j)) (eC (.int 0)) (eVar 5) (eBin oSub (eVar 3) (eC (.int 1)))) (eTup (aCons (eBin oSub (eVar 5) (eC (.int 1))) (aCons (eBin (oAdd false) (eVar 5) (eC (.int 1))) aNil))) (eIte (tCmp cLt (eBin (oAdd false) (eVar 5) (eC (.int 1))) (eVar 3)) (eTup (aCons (eBin (oAdd false) (eVar 5) (eC (.int 1))) aNil)) (eTup aNil)))) aNil)))
  (sSeq (sIf (tOr (tNot (tVal (eCall m__law_fine (aCons (eVar 1) (aCons (eTup (aCons (eVar 4) (aCons (eVar 4) aNil))) aNil))))) (tNot (tVal (eCall m__law_fine (aCons (eVar 1) (aCons (eTup (aCons (eVar 4) (aCons (eVar 6) aNil))) aNil)))))) (sSeq (sRet (eC (.bool false)))
  sNil) sNil)
  (sSeq (sSet 7 (eTup (aCons (eTup (aCons (eTup (aCons (eC (.int 1)) aNil)) (aCons (eTup (aCons (eC (.int 0)) aNil)) (aCons (eTup aNil) aNil)))) (aCons (eTup (aCons (eTup (aCons (eC (.int 1)) aNil)) (aCons (eTup (aCons (eC (.int 0)) (aCons (eC (.int 2)) aNil))) (aCons (eTup aNil) aNil)))) aNil))))
  (sSeq (sRet (eAnd (eCall (m__law_same 6) (aCons (eCall m_ranks (aCons (eVar 7) aNil)) (aCons (eTup (aCons (eTup (aCons (eC (.int 2)) (aCons (eC .none) (aCons (eC (.int 0)) aNil)))) (aCons (eTup (aCons (eC .none) (aCons (eC (.int 1)) (aCons (eC (.int 0)) aNil)))) aNil))) aNil))) (eAnd (eCall (m__law_same 6) (aCons (eCall m_winner (aCons (eVar 7) (aCons (eC (.int 0)) (aCons (eC (.str "left")) aNil)))) (aCons (eC (.str "right")) aNil))) (eCall m__law_fine (aCons (eVar 1) (aCons (eVar 7) aNil))))))
  sNil))))))))
noncomputable def m_law : FA := fnR 1 8 false b_law
theorem c_law {f : Addr} {fd : FuncData} (FF : Fun K "law" "law" s_law f fd) (n : Nm mg) (g : Gm K mg) (h__law_board : Fn P w K mg base 3 "_law_board" m__law_board) (h__law_box : Fn P w K mg base 1 "_law_box" m__law_box) (h__law_draw : Fn P w K mg base 2 "_law_draw" m__law_draw) (h__law_fine : Fn P w K mg base 10 "_law_fine" m__law_fine) (h__law_same : Fn P w K mg base 7 "_law_same" (m__law_same 6)) (h_ranks : Fn P w K mg base 3 "ranks" m_ranks) (h_winner : Fn P w K mg base 4 "winner" m_winner) (run : ∀ ns : List Int, ns.length ≤ 63 → ∃ s', m_law [] [.d (.list (ns.map .int))] = some (.d (.bool true), s')) : FnOk P w K mg base CX0 11 f fd ["script"] (spE K) :=
  law_fn (k := 10) (M := b_law) FF sc_law (fun f cdv A outer s H E hr => by
  have hu := hr.units
  have nd := sc_law.nd
  exact (ns_seq (ns_set 1 (n_call h__law_box (n_cons (n_var 0) n_nil) hr) nd)
  (ns_seq (ns_for (vs := [2]) (ni_rng1 (n_cons n_int n_nil) n.n_range) (ng_name 2 nd) (ns_seq (ns_if (nt_not (nt_val (n_call h__law_fine (n_cons (n_var 1) (n_cons (n_call h__law_board (n_cons (n_var 1) (n_cons (n_it hu (n_lst (n_cons n_int (n_cons n_int (n_cons n_int n_nil)))) (n_var 2)) n_nil)) hr) n_nil)) hr))) (ns_seq (ns_ret n_bl)
  ns_nil) ns_nil)
  ns_nil) PassesOwn.never)
  (ns_seq (ns_set 3 (n_bin o_add n_int (n_call h__law_draw (n_cons (n_var 1) (n_cons n_int n_nil)) hr)) nd)
  (ns_seq (ns_set 4 (n_callT b_tuple (n_cons (n_lc (ni_rng1 (n_cons (n_var 3) n_nil) n.n_range) (fun z => (ng_name 5 nd)) (fun z => nts_nil) (fun z => (n_ite (nt_cmp c_lt (n_bin o_add (n_var 5) n_int) (n_var 3)) (n_tup (n_cons (n_bin o_add (n_var 5) n_int) n_nil)) (n_tup n_nil))) nd (blkOk_by (own := [("k", 5)]) (by kernel_rfl))) n_nil) n.n_tuple) nd)
  (ns_seq (ns_set 6 (n_callT b_tuple (n_cons (n_lc (ni_rng1 (n_cons (n_var 3) n_nil) n.n_range) (fun z => (ng_name 5 nd)) (fun z => nts_nil) (fun z => (n_ite (nt_ch op_lt op_lt n_int (n_var 5) (n_bin o_sub (n_var 3) n_int)) (n_tup (n_cons (n_bin o_sub (n_var 5) n_int) (n_cons (n_bin o_add (n_var 5) n_int) n_nil))) (n_ite (nt_cmp c_lt (n_bin o_add (n_var 5) n_int) (n_var 3)) (n_tup (n_cons (n_bin o_add (n_var 5) n_int) n_nil)) (n_tup n_nil)))) nd (blkOk_by (own := [("k", 5)]) (by kernel_rfl))) n_nil) n.n_tuple) nd)
  (ns_seq (ns_if (nt_bo (nw_or (nt_not (nt_val (n_call h__law_fine (n_cons (n_var 1) (n_cons (n_tup (n_cons (n_var 4) (n_cons (n_var 4) n_nil))) n_nil)) hr))) (nw_or1 (nt_not (nt_val (n_call h__law_fine (n_cons (n_var 1) (n_cons (n_tup (n_cons (n_var 4) (n_cons (n_var 6) n_nil))) n_nil)) hr)))))) (ns_seq (ns_ret n_bl)
  ns_nil) ns_nil)
  (ns_seq (ns_set 7 (n_tup (n_cons (n_tup (n_cons (n_tup (n_cons n_int n_nil)) (n_cons (n_tup (n_cons n_int n_nil)) (n_cons (n_tup n_nil) n_nil)))) (n_cons (n_tup (n_cons (n_tup (n_cons n_int n_nil)) (n_cons (n_tup (n_cons n_int (n_cons n_int n_nil))) (n_cons (n_tup n_nil) n_nil)))) n_nil))) nd)
  (ns_seq (ns_ret (n_and (n_call h__law_same (n_cons (n_call h_ranks (n_cons (n_var 7) n_nil) hr) (n_cons (n_tup (n_cons (n_tup (n_cons n_int (n_cons n_non (n_cons n_int n_nil)))) (n_cons (n_tup (n_cons n_non (n_cons n_int (n_cons n_int n_nil)))) n_nil))) n_nil)) hr) (n_and (n_call h__law_same (n_cons (n_call h_winner (n_cons (n_var 7) (n_cons n_int (n_cons n_str n_nil))) hr) (n_cons n_str n_nil)) hr) (n_one (n_call h__law_fine (n_cons (n_var 1) (n_cons (n_var 7) n_nil)) hr)))))
  ns_nil))))))))) run
end T54

namespace T54
open PySem L2 PyProof.Rows N

section
variable {n : Nat} {a b : List (List Nat)}
theorem it_rk (f : Bool → Nat → Option Nat) (w : Bool) {i : Nat} (hi : i < n) {e : Lo} {s : Sto} {j k l : Nat} (h1 : e[j]? = some (some (.d (rksD n f)))) (h2 : e[k]? = some (some (.d (.str (whoS w))))) (h3 : e[l]? = some (some (.d (.int (i : Nat))))) {Q : D → Sto → Prop} (q : Q (.d (encR (f w i))) s) : R (eIt (eIt (eVar j) (eIte (tCmp cEq (eVar k) (eC (.str "left"))) (eC (.int 0)) (eC (.int 1)))) (eVar l) e s) Q := by
  simp only [Rs_nil, R_call, R_cons, R_nil, R_Var, R_C, R_bin, R_cmp, R_tcmp, R_tOr, R_tAnd, R_tNot, R_tVal, R_tTrue, R_ite, R_eAnd, R_eOr, R_eNot, R_neg, R_tup, R_isi, R_some, Rc_some, N.v_eq, N.v_ne, N.v_lt, N.v_le, N.v_gt, N.v_ge, N.v_add, N.v_sub, N.v_iadd, N.v_xor, N.v_int, N.tru_b, N.pd_d, N.data_nil, N.data_cons, N.len_t, N.v_tupT, N.g_name, N.isNone_n, N.isNone_t, N.isNone_i, N.v_isN, N.v_isNn, N.v_eqB, N.v_neB, List.set_cons_succ, List.set_cons_zero, List.getElem?_cons_succ, List.getElem?_cons_zero, Bool.not_true, Bool.not_false, Bool.false_eq_true, Bool.true_eq_false, eq_self, true_implies, false_implies, true_and, and_true, decide_true, decide_false, Int.zero_add, N.R_sl, N.R_it, R_oNone, R_oSome, wipeN, N.R_lst, N.R_mkF, N.R_mkT, N.R_meth, N.v_addT, Ri_rng1, Ri_rng2, Ri_seq, h1, h2, h3, v_eqS, who_left]
  cases w
  · simp only [Rs_nil, R_call, R_cons, R_nil, R_Var, R_C, R_bin, R_cmp, R_tcmp, R_tOr, R_tAnd, R_tNot, R_tVal, R_tTrue, R_ite, R_eAnd, R_eOr, R_eNot, R_neg, R_tup, R_isi, R_some, Rc_some, N.v_eq, N.v_ne, N.v_lt, N.v_le, N.v_gt, N.v_ge, N.v_add, N.v_sub, N.v_iadd, N.v_xor, N.v_int, N.tru_b, N.pd_d, N.data_nil, N.data_cons, N.len_t, N.v_tupT, N.g_name, N.isNone_n, N.isNone_t, N.isNone_i, N.v_isN, N.v_isNn, N.v_eqB, N.v_neB, List.set_cons_succ, List.set_cons_zero, List.getElem?_cons_succ, List.getElem?_cons_zero, Bool.not_true, Bool.not_false, Bool.false_eq_true, Bool.true_eq_false, eq_self, true_implies, false_implies, true_and, and_true, decide_true, decide_false, Int.zero_add, N.R_sl, N.R_it, R_oNone, R_oSome, wipeN, N.R_lst, N.R_mkF, N.R_mkT, N.R_meth, N.v_addT, Ri_rng1, Ri_rng2, Ri_seq, it_rks1, it_rowR hi]
    exact q
  · simp only [Rs_nil, R_call, R_cons, R_nil, R_Var, R_C, R_bin, R_cmp, R_tcmp, R_tOr, R_tAnd, R_tNot, R_tVal, R_tTrue, R_ite, R_eAnd, R_eOr, R_eNot, R_neg, R_tup, R_isi, R_some, Rc_some, N.v_eq, N.v_ne, N.v_lt, N.v_le, N.v_gt, N.v_ge, N.v_add, N.v_sub, N.v_iadd, N.v_xor, N.v_int, N.tru_b, N.pd_d, N.data_nil, N.data_cons, N.len_t, N.v_tupT, N.g_name, N.isNone_n, N.isNone_t, N.isNone_i, N.v_isN, N.v_isNn, N.v_eqB, N.v_neB, List.set_cons_succ, List.set_cons_zero, List.getElem?_cons_succ, List.getElem?_cons_zero, Bool.not_true, Bool.not_false, Bool.false_eq_true, Bool.true_eq_false, eq_self, true_implies, false_implies, true_and, and_true, decide_true, decide_false, Int.zero_add, N.R_sl, N.R_it, R_oNone, R_oSome, wipeN, N.R_lst, N.R_mkF, N.R_mkT, N.R_meth, N.v_addT, Ri_rng1, Ri_rng2, Ri_seq, it_rks0, it_rowR hi]
    exact q
theorem it_rkO (f : Bool → Nat → Option Nat) (w : Bool) {i : Nat} (hi : i < n) {e : Lo} {s : Sto} {j k l : Nat} (h1 : e[j]? = some (some (.d (rksD n f)))) (h2 : e[k]? = some (some (.d (.str (whoS w))))) (h3 : e[l]? = some (some (.d (.int (i : Nat))))) {Q : D → Sto → Prop} (q : Q (.d (encR (f (!w) i))) s) : R (eIt (eIt (eVar j) (eIte (tCmp cEq (eVar k) (eC (.str "left"))) (eC (.int 1)) (eC (.int 0)))) (eVar l) e s) Q := by
  simp only [Rs_nil, R_call, R_cons, R_nil, R_Var, R_C, R_bin, R_cmp, R_tcmp, R_tOr, R_tAnd, R_tNot, R_tVal, R_tTrue, R_ite, R_eAnd, R_eOr, R_eNot, R_neg, R_tup, R_isi, R_some, Rc_some, N.v_eq, N.v_ne, N.v_lt, N.v_le, N.v_gt, N.v_ge, N.v_add, N.v_sub, N.v_iadd, N.v_xor, N.v_int, N.tru_b, N.pd_d, N.data_nil, N.data_cons, N.len_t, N.v_tupT, N.g_name, N.isNone_n, N.isNone_t, N.isNone_i, N.v_isN, N.v_isNn, N.v_eqB, N.v_neB, List.set_cons_succ, List.set_cons_zero, List.getElem?_cons_succ, List.getElem?_cons_zero, Bool.not_true, Bool.not_false, Bool.false_eq_true, Bool.true_eq_false, eq_self, true_implies, false_implies, true_and, and_true, decide_true, decide_false, Int.zero_add, N.R_sl, N.R_it, R_oNone, R_oSome, wipeN, N.R_lst, N.R_mkF, N.R_mkT, N.R_meth, N.v_addT, Ri_rng1, Ri_rng2, Ri_seq, h1, h2, h3, v_eqS, who_left]
  cases w
  · simp only [Rs_nil, R_call, R_cons, R_nil, R_Var, R_C, R_bin, R_cmp, R_tcmp, R_tOr, R_tAnd, R_tNot, R_tVal, R_tTrue, R_ite, R_eAnd, R_eOr, R_eNot, R_neg, R_tup, R_isi, R_some, Rc_some, N.v_eq, N.v_ne, N.v_lt, N.v_le, N.v_gt, N.v_ge, N.v_add, N.v_sub, N.v_iadd, N.v_xor, N.v_int, N.tru_b, N.pd_d, N.data_nil, N.data_cons, N.len_t, N.v_tupT, N.g_name, N.isNone_n, N.isNone_t, N.isNone_i, N.v_isN, N.v_isNn, N.v_eqB, N.v_neB, List.set_cons_succ, List.set_cons_zero, List.getElem?_cons_succ, List.getElem?_cons_zero, Bool.not_true, Bool.not_false, Bool.false_eq_true, Bool.true_eq_false, eq_self, true_implies, false_implies, true_and, and_true, decide_true, decide_false, Int.zero_add, N.R_sl, N.R_it, R_oNone, R_oSome, wipeN, N.R_lst, N.R_mkF, N.R_mkT, N.R_meth, N.v_addT, Ri_rng1, Ri_rng2, Ri_seq, it_rks0, it_rowR hi]
    exact q
  · simp only [Rs_nil, R_call, R_cons, R_nil, R_Var, R_C, R_bin, R_cmp, R_tcmp, R_tOr, R_tAnd, R_tNot, R_tVal, R_tTrue, R_ite, R_eAnd, R_eOr, R_eNot, R_neg, R_tup, R_isi, R_some, Rc_some, N.v_eq, N.v_ne, N.v_lt, N.v_le, N.v_gt, N.v_ge, N.v_add, N.v_sub, N.v_iadd, N.v_xor, N.v_int, N.tru_b, N.pd_d, N.data_nil, N.data_cons, N.len_t, N.v_tupT, N.g_name, N.isNone_n, N.isNone_t, N.isNone_i, N.v_isN, N.v_isNn, N.v_eqB, N.v_neB, List.set_cons_succ, List.set_cons_zero, List.getElem?_cons_succ, List.getElem?_cons_zero, Bool.not_true, Bool.not_false, Bool.false_eq_true, Bool.true_eq_false, eq_self, true_implies, false_implies, true_and, and_true, decide_true, decide_false, Int.zero_add, N.R_sl, N.R_it, R_oNone, R_oSome, wipeN, N.R_lst, N.R_mkF, N.R_mkT, N.R_meth, N.v_addT, Ri_rng1, Ri_rng2, Ri_seq, it_rks1, it_rowR hi]
    exact q
theorem lbest_ok (h : Bd n a b) (f : Bool → Nat → Option Nat) (w : Bool) {i : Nat} (hi : i < n) (s : Sto) : m__law_best s [.d (bdD a b), .d (rksD n f), .d (.int (i : Nat)), .d (.str (whoS w))] = some (.d (encR (bestB (mvB a b) f w i)), s) := by
  have ok := h.ok
  apply R.eq
  unfold m__law_best b__law_best
  rw [R_fn]
  refine ⟨rfl, ?_⟩
  simp only [List.map_cons, List.map_nil, List.cons_append, List.nil_append, List.length_cons, List.length_nil, Nat.reduceSub, Nat.reduceAdd, List.replicate_succ, List.replicate_zero]
  rw [Rs_seq, Rs_set]
  refine it_rk f w hi (j := 1) (k := 3) (l := 2) rfl rfl rfl ?_
  simp only [List.set_cons_succ, List.set_cons_zero]
  rw [N.thn_nx, Rs_seq]
  refine Rs_for (mvB a b w i) (fun j => .d (.int (j : Nat))) (fun k e s' => s' = s ∧ (∀ y ∈ (mvB a b w i).take k, okR (f w i) (f (!w) y) = false) ∧ e = [some (.d (bdD a b)), some (.d (rksD n f)), some (.d (.int (i : Nat))), some (.d (.str (whoS w))), some (.d (encR (f w i))), none, none]) ?_ (fun k j e s' hk hq => ?_) (fun e s' hq => ?_)
  · rw [Ri_seq]
    simp only [Rs_nil, R_call, R_cons, R_nil, R_Var, R_C, R_bin, R_cmp, R_tcmp, R_tOr, R_tAnd, R_tNot, R_tVal, R_tTrue, R_ite, R_eAnd, R_eOr, R_eNot, R_neg, R_tup, R_isi, R_some, Rc_some, N.v_eq, N.v_ne, N.v_lt, N.v_le, N.v_gt, N.v_ge, N.v_add, N.v_sub, N.v_iadd, N.v_xor, N.v_int, N.tru_b, N.pd_d, N.data_nil, N.data_cons, N.len_t, N.v_tupT, N.g_name, N.isNone_n, N.isNone_t, N.isNone_i, N.v_isN, N.v_isNn, N.v_eqB, N.v_neB, List.set_cons_succ, List.set_cons_zero, List.getElem?_cons_succ, List.getElem?_cons_zero, Bool.not_true, Bool.not_false, Bool.false_eq_true, Bool.true_eq_false, eq_self, true_implies, false_implies, true_and, and_true, decide_true, decide_false, Int.zero_add, N.R_sl, N.R_it, R_oNone, R_oSome, wipeN, N.R_lst, N.R_mkF, N.R_mkT, N.R_meth, N.v_addT, Ri_rng1, Ri_rng2, Ri_seq, lmv_ok h w hi, tup]
    simp [nt, Function.comp_def]
  · obtain ⟨rfl, hb, rfl⟩ := hq
    have hjm := List.mem_of_getElem? hk
    have hjn := ok.lt w i hi j hjm
    rw [g_name, Rc_some, Rs_seq, Rs_set]
    refine it_rkO f w hjn (j := 1) (k := 3) (l := 5) rfl rfl rfl ?_
    simp only [List.set_cons_succ, List.set_cons_zero]
    rw [N.thn_nx, Rs_seq, Rs_if]
    refine (best_testL (f w i) (f (!w) j) _ _ (p := 4) (q := 6) rfl rfl).imp fun t s' ⟨ht, hs⟩ => ?_
    subst ht hs
    refine ⟨fun ht => ?_, fun ht => ?_⟩
    · rw [Rs_seq, Rs_ret]
      simp only [Rs_nil, R_call, R_cons, R_nil, R_Var, R_C, R_bin, R_cmp, R_tcmp, R_tOr, R_tAnd, R_tNot, R_tVal, R_tTrue, R_ite, R_eAnd, R_eOr, R_eNot, R_neg, R_tup, R_isi, R_some, Rc_some, N.v_eq, N.v_ne, N.v_lt, N.v_le, N.v_gt, N.v_ge, N.v_add, N.v_sub, N.v_iadd, N.v_xor, N.v_int, N.tru_b, N.pd_d, N.data_nil, N.data_cons, N.len_t, N.v_tupT, N.g_name, N.isNone_n, N.isNone_t, N.isNone_i, N.v_isN, N.v_isNn, N.v_eqB, N.v_neB, List.set_cons_succ, List.set_cons_zero, List.getElem?_cons_succ, List.getElem?_cons_zero, Bool.not_true, Bool.not_false, Bool.false_eq_true, Bool.true_eq_false, eq_self, true_implies, false_implies, true_and, and_true, decide_true, decide_false, Int.zero_add, N.R_sl, N.R_it, R_oNone, R_oSome, wipeN, N.R_lst, N.R_mkF, N.R_mkT, N.R_meth, N.v_addT, Ri_rng1, Ri_rng2, Ri_seq]
      rw [N.thn_rt, N.thn_rt, aft_rt, N.thn_rt]
      have := find_at (p := fun j => okR (f w i) (f (!w) j)) hk ht hb
      rw [show bestB (mvB a b) f w i = some j from this]
      exact R_retd.mpr ⟨rfl, by simp⟩
    · try rw [Rs_nil]
      rw [N.thn_nx, Rs_nil, aft_nx, trimE_len rfl]
      refine ⟨rfl, fun y hy => ?_, by simp [wipeN]⟩
      rw [List.take_add_one, hk] at hy
      rcases List.mem_append.mp hy with hy | hy
      · exact hb y hy
      · simp at hy
        rw [hy]
        exact ht
  · obtain ⟨rfl, hb, rfl⟩ := hq
    rw [List.take_length] at hb
    rw [N.thn_nx, Rs_seq, Rs_ret]
    simp only [Rs_nil, R_call, R_cons, R_nil, R_Var, R_C, R_bin, R_cmp, R_tcmp, R_tOr, R_tAnd, R_tNot, R_tVal, R_tTrue, R_ite, R_eAnd, R_eOr, R_eNot, R_neg, R_tup, R_isi, R_some, Rc_some, N.v_eq, N.v_ne, N.v_lt, N.v_le, N.v_gt, N.v_ge, N.v_add, N.v_sub, N.v_iadd, N.v_xor, N.v_int, N.tru_b, N.pd_d, N.data_nil, N.data_cons, N.len_t, N.v_tupT, N.g_name, N.isNone_n, N.isNone_t, N.isNone_i, N.v_isN, N.v_isNn, N.v_eqB, N.v_neB, List.set_cons_succ, List.set_cons_zero, List.getElem?_cons_succ, List.getElem?_cons_zero, Bool.not_true, Bool.not_false, Bool.false_eq_true, Bool.true_eq_false, eq_self, true_implies, false_implies, true_and, and_true, decide_true, decide_false, Int.zero_add, N.R_sl, N.R_it, R_oNone, R_oSome, wipeN, N.R_lst, N.R_mkF, N.R_mkT, N.R_meth, N.v_addT, Ri_rng1, Ri_rng2, Ri_seq]
    rw [N.thn_rt]
    have := find_no (p := fun j => okR (f w i) (f (!w) j)) hb
    rw [show bestB (mvB a b) f w i = none from this]
    exact R_retd.mpr ⟨rfl, by simp⟩
theorem lwin_ok (f : Bool → Nat → Option Nat) (w : Bool) {i : Nat} (hi : i < n) (s : Sto) : m__law_winner s [.d (rksD n f), .d (.int (i : Nat)), .d (.str (whoS w))] = some (.d (.str (winS (f w i) w)), s) := by
  apply R.eq
  unfold m__law_winner b__law_winner
  rw [R_fn]
  refine ⟨rfl, ?_⟩
  simp only [List.map_cons, List.map_nil, List.cons_append, List.nil_append, List.length_cons, List.length_nil, Nat.reduceSub, Nat.reduceAdd, List.replicate_succ, List.replicate_zero]
  rw [Rs_seq, Rs_set]
  refine it_rk f w hi (j := 0) (k := 2) (l := 1) rfl rfl rfl ?_
  simp only [List.set_cons_succ, List.set_cons_zero]
  rw [N.thn_nx, Rs_seq, Rs_ret]
  cases e : f w i with
  | none =>
    simp only [Rs_nil, R_call, R_cons, R_nil, R_Var, R_C, R_bin, R_cmp, R_tcmp, R_tOr, R_tAnd, R_tNot, R_tVal, R_tTrue, R_ite, R_eAnd, R_eOr, R_eNot, R_neg, R_tup, R_isi, R_some, Rc_some, N.v_eq, N.v_ne, N.v_lt, N.v_le, N.v_gt, N.v_ge, N.v_add, N.v_sub, N.v_iadd, N.v_xor, N.v_int, N.tru_b, N.pd_d, N.data_nil, N.data_cons, N.len_t, N.v_tupT, N.g_name, N.isNone_n, N.isNone_t, N.isNone_i, N.v_isN, N.v_isNn, N.v_eqB, N.v_neB, List.set_cons_succ, List.set_cons_zero, List.getElem?_cons_succ, List.getElem?_cons_zero, Bool.not_true, Bool.not_false, Bool.false_eq_true, Bool.true_eq_false, eq_self, true_implies, false_implies, true_and, and_true, decide_true, decide_false, Int.zero_add, N.R_sl, N.R_it, R_oNone, R_oSome, wipeN, N.R_lst, N.R_mkF, N.R_mkT, N.R_meth, N.v_addT, Ri_rng1, Ri_rng2, Ri_seq, encR]
    rw [N.thn_rt]
    exact R_retd.mpr ⟨rfl, by simp⟩
  | some t =>
    simp only [Rs_nil, R_call, R_cons, R_nil, R_Var, R_C, R_bin, R_cmp, R_tcmp, R_tOr, R_tAnd, R_tNot, R_tVal, R_tTrue, R_ite, R_eAnd, R_eOr, R_eNot, R_neg, R_tup, R_isi, R_some, Rc_some, N.v_eq, N.v_ne, N.v_lt, N.v_le, N.v_gt, N.v_ge, N.v_add, N.v_sub, N.v_iadd, N.v_xor, N.v_int, N.tru_b, N.pd_d, N.data_nil, N.data_cons, N.len_t, N.v_tupT, N.g_name, N.isNone_n, N.isNone_t, N.isNone_i, N.v_isN, N.v_isNn, N.v_eqB, N.v_neB, List.set_cons_succ, List.set_cons_zero, List.getElem?_cons_succ, List.getElem?_cons_zero, Bool.not_true, Bool.not_false, Bool.false_eq_true, Bool.true_eq_false, eq_self, true_implies, false_implies, true_and, and_true, decide_true, decide_false, Int.zero_add, N.R_sl, N.R_it, R_oNone, R_oSome, wipeN, N.R_lst, N.R_mkF, N.R_mkT, N.R_meth, N.v_addT, Ri_rng1, Ri_rng2, Ri_seq, encR]
    rw [v_div (show (0 : Int) < 2 by decide) (by decide)]
    simp only [Rs_nil, R_call, R_cons, R_nil, R_Var, R_C, R_bin, R_cmp, R_tcmp, R_tOr, R_tAnd, R_tNot, R_tVal, R_tTrue, R_ite, R_eAnd, R_eOr, R_eNot, R_neg, R_tup, R_isi, R_some, Rc_some, N.v_eq, N.v_ne, N.v_lt, N.v_le, N.v_gt, N.v_ge, N.v_add, N.v_sub, N.v_iadd, N.v_xor, N.v_int, N.tru_b, N.pd_d, N.data_nil, N.data_cons, N.len_t, N.v_tupT, N.g_name, N.isNone_n, N.isNone_t, N.isNone_i, N.v_isN, N.v_isNn, N.v_eqB, N.v_neB, List.set_cons_succ, List.set_cons_zero, List.getElem?_cons_succ, List.getElem?_cons_zero, Bool.not_true, Bool.not_false, Bool.false_eq_true, Bool.true_eq_false, eq_self, true_implies, false_implies, true_and, and_true, decide_true, decide_false, Int.zero_add, N.R_sl, N.R_it, R_oNone, R_oSome, wipeN, N.R_lst, N.R_mkF, N.R_mkT, N.R_meth, N.v_addT, Ri_rng1, Ri_rng2, Ri_seq]
    rw [v_mulR (by decide)]
    simp only [Rs_nil, R_call, R_cons, R_nil, R_Var, R_C, R_bin, R_cmp, R_tcmp, R_tOr, R_tAnd, R_tNot, R_tVal, R_tTrue, R_ite, R_eAnd, R_eOr, R_eNot, R_neg, R_tup, R_isi, R_some, Rc_some, N.v_eq, N.v_ne, N.v_lt, N.v_le, N.v_gt, N.v_ge, N.v_add, N.v_sub, N.v_iadd, N.v_xor, N.v_int, N.tru_b, N.pd_d, N.data_nil, N.data_cons, N.len_t, N.v_tupT, N.g_name, N.isNone_n, N.isNone_t, N.isNone_i, N.v_isN, N.v_isNn, N.v_eqB, N.v_neB, List.set_cons_succ, List.set_cons_zero, List.getElem?_cons_succ, List.getElem?_cons_zero, Bool.not_true, Bool.not_false, Bool.false_eq_true, Bool.true_eq_false, eq_self, true_implies, false_implies, true_and, and_true, decide_true, decide_false, Int.zero_add, N.R_sl, N.R_it, R_oNone, R_oSome, wipeN, N.R_lst, N.R_mkF, N.R_mkT, N.R_meth, N.v_addT, Ri_rng1, Ri_rng2, Ri_seq, lother_ok]
    refine ⟨fun h1 => ?_, fun h1 => ?_⟩
    · have h1 : t % 2 = 1 := by have h2 : ¬ ((t : Nat) : Int) / 2 * 2 = (t : Nat) := by simpa using h1
                                omega
      rw [N.thn_rt]
      refine R_retd.mpr ⟨?_, by simp⟩
      unfold winS
      simp only [h1, if_true]
    · have h1 : ¬ t % 2 = 1 := by have h2 : ((t : Nat) : Int) / 2 * 2 = (t : Nat) := by simpa using h1
                                  omega
      rw [N.thn_rt]
      refine R_retd.mpr ⟨?_, by simp⟩
      unfold winS
      simp only [h1, if_false]
theorem lline_ok (h : Bd n a b) (w0 : Bool) {i0 : Nat} (hi0 : i0 < n) {limit : Nat} (hl : limit ≤ 100) (s : Sto) : m__law_line s [.d (bdD a b), .d (rksD n (rkB n (mvB a b))), .d (.int (i0 : Nat)), .d (.str (whoS w0)), .d (.int (limit : Nat))] = some (.d (tup (lineB (bestB (mvB a b) (rkB n (mvB a b))) limit w0 i0)), s) := by
  have ok := h.ok
  apply R.eq
  unfold m__law_line b__law_line
  rw [R_fn]
  refine ⟨rfl, ?_⟩
  simp only [List.map_cons, List.map_nil, List.cons_append, List.nil_append, List.length_cons, List.length_nil, Nat.reduceSub, Nat.reduceAdd, List.replicate_succ, List.replicate_zero]
  rw [Rs_seq, Rs_set]
  simp only [Rs_nil, R_call, R_cons, R_nil, R_Var, R_C, R_bin, R_cmp, R_tcmp, R_tOr, R_tAnd, R_tNot, R_tVal, R_tTrue, R_ite, R_eAnd, R_eOr, R_eNot, R_neg, R_tup, R_isi, R_some, Rc_some, N.v_eq, N.v_ne, N.v_lt, N.v_le, N.v_gt, N.v_ge, N.v_add, N.v_sub, N.v_iadd, N.v_xor, N.v_int, N.tru_b, N.pd_d, N.data_nil, N.data_cons, N.len_t, N.v_tupT, N.g_name, N.isNone_n, N.isNone_t, N.isNone_i, N.v_isN, N.v_isNn, N.v_eqB, N.v_neB, List.set_cons_succ, List.set_cons_zero, List.getElem?_cons_succ, List.getElem?_cons_zero, Bool.not_true, Bool.not_false, Bool.false_eq_true, Bool.true_eq_false, eq_self, true_implies, false_implies, true_and, and_true, decide_true, decide_false, Int.zero_add, N.R_sl, N.R_it, R_oNone, R_oSome, wipeN, N.R_lst, N.R_mkF, N.R_mkT, N.R_meth, N.v_addT, Ri_rng1, Ri_rng2, Ri_seq]
  refine ⟨by simp [lim], ?_⟩
  generalize hres : lineB (bestB (mvB a b) (rkB n (mvB a b))) limit w0 i0 = res
  rw [N.thn_nx, Rs_seq]
  refine Rs_while (fun m e s' => ∃ (P : List Nat) (i : Nat) (w : Bool), i < n ∧ P.length + m = limit ∧ P ++ lineB (bestB (mvB a b) (rkB n (mvB a b))) m w i = res ∧ s' = s ++ [.lst ((nt (P ++ [i])).map .d)] ∧ e = [some (.d (bdD a b)), some (.d (rksD n (rkB n (mvB a b)))), some (.d (.int (i0 : Nat))), some (.d (.str (whoS w))), some (.d (.int (limit : Nat))), some (.r s.length)]) (m := limit) (Nat.lt_of_le_of_lt hl (by decide)) ⟨[], i0, w0, hi0, by simp, by simpa using hres, by simp [nt], rfl⟩ (fun m e s' hi => ?_)
  obtain ⟨P, i, w, hi, hm, hr, rfl, rfl⟩ := hi
  have g0 : (s ++ [Cell.lst ((nt (P ++ [i])).map D.d)])[s.length]? = some (.lst ((nt (P ++ [i])).map D.d)) := by simp
  have hlen : bLen (s ++ [Cell.lst ((nt (P ++ [i])).map D.d)]) [.r s.length] = some (.d (.int (P.length + 1 : Nat)), s ++ [Cell.lst ((nt (P ++ [i])).map D.d)]) := by
    have := N.len_r g0
    rw [this]
    simp [nt]
  have ret : res = P ++ [i] → Rs (sSeq (sRet (eCall bTuple (aCons (eVar 5) aNil))) sNil [some (.d (bdD a b)), some (.d (rksD n (rkB n (mvB a b)))), some (.d (.int (i0 : Nat))), some (.d (.str (whoS w))), some (.d (.int (limit : Nat))), some (.r s.length)] (s ++ [Cell.lst ((nt (P ++ [i])).map D.d)])) (fun fl e' s' => ∃ d, fl = .rt d ∧ d = .d (tup res) ∧ s' = s ++ [Cell.lst ((nt (P ++ [i])).map D.d)]) := fun h1 => by
    rw [Rs_seq, Rs_ret]
    simp only [Rs_nil, R_call, R_cons, R_nil, R_Var, R_C, R_bin, R_cmp, R_tcmp, R_tOr, R_tAnd, R_tNot, R_tVal, R_tTrue, R_ite, R_eAnd, R_eOr, R_eNot, R_neg, R_tup, R_isi, R_some, Rc_some, N.v_eq, N.v_ne, N.v_lt, N.v_le, N.v_gt, N.v_ge, N.v_add, N.v_sub, N.v_iadd, N.v_xor, N.v_int, N.tru_b, N.pd_d, N.data_nil, N.data_cons, N.len_t, N.v_tupT, N.g_name, N.isNone_n, N.isNone_t, N.isNone_i, N.v_isN, N.v_isNn, N.v_eqB, N.v_neB, List.set_cons_succ, List.set_cons_zero, List.getElem?_cons_succ, List.getElem?_cons_zero, Bool.not_true, Bool.not_false, Bool.false_eq_true, Bool.true_eq_false, eq_self, true_implies, false_implies, true_and, and_true, decide_true, decide_false, Int.zero_add, N.R_sl, N.R_it, R_oNone, R_oSome, wipeN, N.R_lst, N.R_mkF, N.R_mkT, N.R_meth, N.v_addT, Ri_rng1, Ri_rng2, Ri_seq]
    rw [v_tupR g0, R_some, N.thn_rt]
    exact ⟨_, rfl, by rw [h1]; rfl, rfl⟩
  have fin : res = P ++ [i] → Rs (sSeq (sRet (eCall bTuple (aCons (eVar 5) aNil))) sNil [some (.d (bdD a b)), some (.d (rksD n (rkB n (mvB a b)))), some (.d (.int (i0 : Nat))), some (.d (.str (whoS w))), some (.d (.int (limit : Nat))), some (.r s.length)] (s ++ [Cell.lst ((nt (P ++ [i])).map D.d)])) fun fl x s'' => match fl with
      | Fl.rt d => R (N.ret false s d s'') fun y s' => y = .d (tup res) ∧ s' = s
      | Fl.nx => R (N.ret false s (.d .none) s'') fun y s' => y = .d (tup res) ∧ s' = s
      | _ => False := fun h1 => (ret h1).imp fun fl e' s' ⟨d, h2, h3, h4⟩ => by
    subst h2 h3 h4
    exact R_retd.mpr ⟨rfl, by simp⟩
  simp only [Rs_nil, R_call, R_cons, R_nil, R_Var, R_C, R_bin, R_cmp, R_tcmp, R_tOr, R_tAnd, R_tNot, R_tVal, R_tTrue, R_ite, R_eAnd, R_eOr, R_eNot, R_neg, R_tup, R_isi, R_some, Rc_some, N.v_eq, N.v_ne, N.v_lt, N.v_le, N.v_gt, N.v_ge, N.v_add, N.v_sub, N.v_iadd, N.v_xor, N.v_int, N.tru_b, N.pd_d, N.data_nil, N.data_cons, N.len_t, N.v_tupT, N.g_name, N.isNone_n, N.isNone_t, N.isNone_i, N.v_isN, N.v_isNn, N.v_eqB, N.v_neB, List.set_cons_succ, List.set_cons_zero, List.getElem?_cons_succ, List.getElem?_cons_zero, Bool.not_true, Bool.not_false, Bool.false_eq_true, Bool.true_eq_false, eq_self, true_implies, false_implies, true_and, and_true, decide_true, decide_false, Int.zero_add, N.R_sl, N.R_it, R_oNone, R_oSome, wipeN, N.R_lst, N.R_mkF, N.R_mkT, N.R_meth, N.v_addT, Ri_rng1, Ri_rng2, Ri_seq, hlen, it_lastR g0, lbest_ok h _ w hi]
  cases m with
  | zero =>
    rw [lineB] at hr
    have h1 : decide (((P.length + 1 : Nat) : Int) ≤ (limit : Nat)) = false := decide_eq_false (by omega)
    simp only [h1]
    simp only [Rs_nil, R_call, R_cons, R_nil, R_Var, R_C, R_bin, R_cmp, R_tcmp, R_tOr, R_tAnd, R_tNot, R_tVal, R_tTrue, R_ite, R_eAnd, R_eOr, R_eNot, R_neg, R_tup, R_isi, R_some, Rc_some, N.v_eq, N.v_ne, N.v_lt, N.v_le, N.v_gt, N.v_ge, N.v_add, N.v_sub, N.v_iadd, N.v_xor, N.v_int, N.tru_b, N.pd_d, N.data_nil, N.data_cons, N.len_t, N.v_tupT, N.g_name, N.isNone_n, N.isNone_t, N.isNone_i, N.v_isN, N.v_isNn, N.v_eqB, N.v_neB, List.set_cons_succ, List.set_cons_zero, List.getElem?_cons_succ, List.getElem?_cons_zero, Bool.not_true, Bool.not_false, Bool.false_eq_true, Bool.true_eq_false, eq_self, true_implies, false_implies, true_and, and_true, decide_true, decide_false, Int.zero_add, N.R_sl, N.R_it, R_oNone, R_oSome, wipeN, N.R_lst, N.R_mkF, N.R_mkT, N.R_meth, N.v_addT, Ri_rng1, Ri_rng2, Ri_seq]
    rw [N.thn_nx]
    exact fin hr.symm
  | succ m =>
    rw [lineB_succ] at hr
    have h1 : decide (((P.length + 1 : Nat) : Int) ≤ (limit : Nat)) = true := decide_eq_true (by omega)
    simp only [h1]
    cases e : bestB (mvB a b) (rkB n (mvB a b)) w i with
    | none =>
      rw [e] at hr
      simp only [Rs_nil, R_call, R_cons, R_nil, R_Var, R_C, R_bin, R_cmp, R_tcmp, R_tOr, R_tAnd, R_tNot, R_tVal, R_tTrue, R_ite, R_eAnd, R_eOr, R_eNot, R_neg, R_tup, R_isi, R_some, Rc_some, N.v_eq, N.v_ne, N.v_lt, N.v_le, N.v_gt, N.v_ge, N.v_add, N.v_sub, N.v_iadd, N.v_xor, N.v_int, N.tru_b, N.pd_d, N.data_nil, N.data_cons, N.len_t, N.v_tupT, N.g_name, N.isNone_n, N.isNone_t, N.isNone_i, N.v_isN, N.v_isNn, N.v_eqB, N.v_neB, List.set_cons_succ, List.set_cons_zero, List.getElem?_cons_succ, List.getElem?_cons_zero, Bool.not_true, Bool.not_false, Bool.false_eq_true, Bool.true_eq_false, eq_self, true_implies, false_implies, true_and, and_true, decide_true, decide_false, Int.zero_add, N.R_sl, N.R_it, R_oNone, R_oSome, wipeN, N.R_lst, N.R_mkF, N.R_mkT, N.R_meth, N.v_addT, Ri_rng1, Ri_rng2, Ri_seq, encR]
      rw [N.thn_nx]
      exact fin hr.symm
    | some j =>
      rw [e] at hr
      obtain ⟨hjn, _⟩ := best_lt ok hi e
      simp only [Rs_nil, R_call, R_cons, R_nil, R_Var, R_C, R_bin, R_cmp, R_tcmp, R_tOr, R_tAnd, R_tNot, R_tVal, R_tTrue, R_ite, R_eAnd, R_eOr, R_eNot, R_neg, R_tup, R_isi, R_some, Rc_some, N.v_eq, N.v_ne, N.v_lt, N.v_le, N.v_gt, N.v_ge, N.v_add, N.v_sub, N.v_iadd, N.v_xor, N.v_int, N.tru_b, N.pd_d, N.data_nil, N.data_cons, N.len_t, N.v_tupT, N.g_name, N.isNone_n, N.isNone_t, N.isNone_i, N.v_isN, N.v_isNn, N.v_eqB, N.v_neB, List.set_cons_succ, List.set_cons_zero, List.getElem?_cons_succ, List.getElem?_cons_zero, Bool.not_true, Bool.not_false, Bool.false_eq_true, Bool.true_eq_false, eq_self, true_implies, false_implies, true_and, and_true, decide_true, decide_false, Int.zero_add, N.R_sl, N.R_it, R_oNone, R_oSome, wipeN, N.R_lst, N.R_mkF, N.R_mkT, N.R_meth, N.v_addT, Ri_rng1, Ri_rng2, Ri_seq, encR]
      rw [Rs_seq, Rs_expr]
      simp only [Rs_nil, R_call, R_cons, R_nil, R_Var, R_C, R_bin, R_cmp, R_tcmp, R_tOr, R_tAnd, R_tNot, R_tVal, R_tTrue, R_ite, R_eAnd, R_eOr, R_eNot, R_neg, R_tup, R_isi, R_some, Rc_some, N.v_eq, N.v_ne, N.v_lt, N.v_le, N.v_gt, N.v_ge, N.v_add, N.v_sub, N.v_iadd, N.v_xor, N.v_int, N.tru_b, N.pd_d, N.data_nil, N.data_cons, N.len_t, N.v_tupT, N.g_name, N.isNone_n, N.isNone_t, N.isNone_i, N.v_isN, N.v_isNn, N.v_eqB, N.v_neB, List.set_cons_succ, List.set_cons_zero, List.getElem?_cons_succ, List.getElem?_cons_zero, Bool.not_true, Bool.not_false, Bool.false_eq_true, Bool.true_eq_false, eq_self, true_implies, false_implies, true_and, and_true, decide_true, decide_false, Int.zero_add, N.R_sl, N.R_it, R_oNone, R_oSome, wipeN, N.R_lst, N.R_mkF, N.R_mkT, N.R_meth, N.v_addT, Ri_rng1, Ri_rng2, Ri_seq, g0, it_lastR g0, lbest_ok h _ w hi, e, encR]
      rw [v_app]
      refine ⟨by simp [nt, lim]; omega, ?_⟩
      rw [N.set_last, N.thn_nx, Rs_seq, Rs_set]
      simp only [Rs_nil, R_call, R_cons, R_nil, R_Var, R_C, R_bin, R_cmp, R_tcmp, R_tOr, R_tAnd, R_tNot, R_tVal, R_tTrue, R_ite, R_eAnd, R_eOr, R_eNot, R_neg, R_tup, R_isi, R_some, Rc_some, N.v_eq, N.v_ne, N.v_lt, N.v_le, N.v_gt, N.v_ge, N.v_add, N.v_sub, N.v_iadd, N.v_xor, N.v_int, N.tru_b, N.pd_d, N.data_nil, N.data_cons, N.len_t, N.v_tupT, N.g_name, N.isNone_n, N.isNone_t, N.isNone_i, N.v_isN, N.v_isNn, N.v_eqB, N.v_neB, List.set_cons_succ, List.set_cons_zero, List.getElem?_cons_succ, List.getElem?_cons_zero, Bool.not_true, Bool.not_false, Bool.false_eq_true, Bool.true_eq_false, eq_self, true_implies, false_implies, true_and, and_true, decide_true, decide_false, Int.zero_add, N.R_sl, N.R_it, R_oNone, R_oSome, wipeN, N.R_lst, N.R_mkF, N.R_mkT, N.R_meth, N.v_addT, Ri_rng1, Ri_rng2, Ri_seq, lother_ok]
      rw [N.thn_nx, Rs_nil, aft_nx, trimE_len (by simp)]
      exact ⟨m, by omega, P ++ [i], j, !w, hjn, by simp; omega, by rw [List.append_assoc]; exact hr, by simp [nt], by simp [wipeN]⟩
end
end T54

namespace T54
open PySem L2 PyProof.Rows N

theorem v_mulT {xs : List PyData} {k : Nat} {s : Sto} (hx : xs ≠ []) (hk : k ≤ 1000) (hl : xs.length ≤ 1000) : oMul s (.d (.tuple xs)) (.d (.int (k : Nat))) = some (.d (.tuple (List.replicate k xs).flatten), s) := by
  unfold oMul
  by_cases h : k = 0
  · subst h
    simp [hx]
  · simp only [if_pos (show xs ≠ [] ∧ (1 : Int) ≤ (k : Nat) ∧ ((k : Nat) : Int) ≤ 1000 ∧ xs.length ≤ 1000 from ⟨hx, by omega, by omega, hl⟩), Int.toNat_natCast]
theorem rep1 (k : Nat) (x : PyData) : (List.replicate k [x]).flatten = List.replicate k x := by
  induction k with
  | zero => rfl
  | succ k ih => rw [List.replicate_succ, List.flatten_cons, ih, List.replicate_succ]; rfl
theorem R_addRd {j : Nat} {xs ys : List PyData} {s : Sto} {Q : D → Sto → Prop} (hj : s[j]? = some (.lst (xs.map .d))) (hl : xs.length + ys.length ≤ lim) (q : Q (.d (.list (xs ++ ys))) s) : R (oAdd false s (.r j) (.d (.list ys))) Q := by
  unfold oAdd asL
  simp only [hj, List.length_map]
  rw [if_pos hl, ← List.map_append, R_mkF, data_map, Rc_some]
  exact q
theorem Rs_forE {α : Type} (enc : α → D) (J : List α → Lo → Sto → Prop) {mi : MI} {g : MG} {M : MS} {dead : List Nat} {e : Lo} {s : Sto} {Qs : Fl → Lo → Sto → Prop} (hi : Ri (mi e s) fun items ck s1 => ∃ l : List α, items = l.map enc ∧ ck = none ∧ J l e s1)
    (h : ∀ l e s1, J l e s1 → Rs (sFor (fun _ s => some (l.map enc, none, s)) g M dead e s1) Qs) : Rs (sFor mi g M dead e s) Qs := by
  obtain ⟨_, _, s1, h1, l, rfl, rfl, hj⟩ := hi
  have := h l e s1 hj
  unfold sFor at this ⊢
  simp only [h1]
  exact this
theorem turned_ok (a b : List (List Nat)) (s : Sto) : m_turned_board s [.d (bdD a b)] = some (.d (bdD b a), s) := by
  apply R.eq
  unfold m_turned_board b_turned_board
  rw [R_fn]
  refine ⟨rfl, ?_⟩
  simp only [List.map_cons, List.map_nil, List.cons_append, List.nil_append, List.length_cons, List.length_nil, Nat.reduceSub, Nat.reduceAdd, List.replicate_succ, List.replicate_zero]
  rw [Rs_seq, Rs_ret]
  simp only [Rs_nil, R_call, R_cons, R_nil, R_Var, R_C, R_bin, R_cmp, R_tcmp, R_tOr, R_tAnd, R_tNot, R_tVal, R_tTrue, R_ite, R_eAnd, R_eOr, R_eNot, R_neg, R_tup, R_isi, R_some, Rc_some, N.v_eq, N.v_ne, N.v_lt, N.v_le, N.v_gt, N.v_ge, N.v_add, N.v_sub, N.v_iadd, N.v_xor, N.v_int, N.tru_b, N.pd_d, N.data_nil, N.data_cons, N.len_t, N.v_tupT, N.g_name, N.isNone_n, N.isNone_t, N.isNone_i, N.v_isN, N.v_isNn, N.v_eqB, N.v_neB, List.set_cons_succ, List.set_cons_zero, List.getElem?_cons_succ, List.getElem?_cons_zero, Bool.not_true, Bool.not_false, Bool.false_eq_true, Bool.true_eq_false, eq_self, true_implies, false_implies, true_and, and_true, decide_true, decide_false, Int.zero_add, N.R_sl, N.R_it, R_oNone, R_oSome, wipeN, N.R_lst, N.R_mkF, N.R_mkT, N.R_meth, N.v_addT, Ri_rng1, Ri_rng2, Ri_seq, it_bd0, it_bd1]
  refine ⟨by simp [lim], ?_⟩
  rw [N.thn_rt]
  exact R_retd.mpr ⟨rfl, by simp⟩
section
variable {n : Nat} {a b : List (List Nat)}
theorem wd_enc {B k : Nat} (o : Option Nat) : wd B (k + 1) (encR o) := by cases o <;> trivial
theorem wd_row (hn : n ≤ 40) (f : Bool → Nat → Option Nat) (w : Bool) {k : Nat} : wd 100 (k + 2) (rowR n f w) := by
  refine ⟨by rw [List.length_map, List.length_range]; omega, fun x hx => ?_⟩
  obtain ⟨i, _, rfl⟩ := List.mem_map.mp hx
  exact wd_enc _
theorem wd_rks (hn : n ≤ 40) (f : Bool → Nat → Option Nat) {k : Nat} : wd 100 (k + 3) (rksD n f) := by
  refine ⟨by simp, fun x hx => ?_⟩
  simp only [List.mem_cons, List.not_mem_nil, or_false] at hx
  rcases hx with rfl | rfl
  · exact wd_row hn f true
  · exact wd_row hn f false
theorem sok_rks (hn : n ≤ 40) (f : Bool → Nat → Option Nat) : sok 6 (rksD n f) := wd_sok (B := 100) (by decide) (wd_rks hn f)
theorem bnt_rks (hn : n ≤ 40) (mv : Bool → Nat → List Nat) : bnt 40 3 (rksD n (rkB n mv)) := by
  refine ⟨by simp, fun x hx => ?_⟩
  have key : ∀ w, bnt 40 2 (rowR n (rkB n mv) w) := fun w => by
    refine ⟨by rw [List.length_map, List.length_range]; omega, fun x hx => ?_⟩
    obtain ⟨i, _, rfl⟩ := List.mem_map.mp hx
    cases e : rkB n mv w i with
    | none => trivial
    | some t =>
      have := rk_small hn e
      show ((t : Nat) : Int).natAbs < 2 ^ 256
      exact Nat.lt_of_le_of_lt (show ((t : Nat) : Int).natAbs ≤ 80 by omega) (by decide)
  simp only [List.mem_cons, List.not_mem_nil, or_false] at hx
  rcases hx with rfl | rfl
  · exact key true
  · exact key false
def sdW (d : Nat) : Bool := decide (d = 0)
theorem it_rksN (f : Bool → Nat → Option Nat) {d : Nat} (hd : d < 2) (s : Sto) : itF s (.d (rksD n f)) (.d (.int (d : Nat))) = some (.d (rowR n f (sdW d))) := by
  have : d = 0 ∨ d = 1 := by omega
  rcases this with rfl | rfl
  · exact it_rks0 f s
  · exact it_rks1 f s
theorem rev_rks (f : Bool → Nat → Option Nat) : [rowR n f false, rowR n f true] = [rowR n (fun w i => f (!w) i) true, rowR n (fun w i => f (!w) i) false] := rfl
theorem fine_ok {rest s : Sto} (t : BS rest s) (f : Flat rest) (h : Bd n a b) {Q : D → Sto → Prop} (q : ∀ s', BS rest s' → Q (.d (.bool true)) s') : R (m__law_fine s [.r 1, .d (bdD a b)]) Q := by
  have ok := h.ok
  have n1 := h.n1
  have n40 := h.n40
  have ls := t.len
  unfold m__law_fine b__law_fine
  rw [R_fn]
  refine ⟨rfl, ?_⟩
  simp only [List.map_cons, List.map_nil, List.cons_append, List.nil_append, List.length_cons, List.length_nil, Nat.reduceSub, Nat.reduceAdd, List.replicate_succ, List.replicate_zero]
  rw [Rs_seq, Rs_asg]
  simp only [Rs_nil, R_call, R_cons, R_nil, R_Var, R_C, R_bin, R_cmp, R_tcmp, R_tOr, R_tAnd, R_tNot, R_tVal, R_tTrue, R_ite, R_eAnd, R_eOr, R_eNot, R_neg, R_tup, R_isi, R_some, Rc_some, N.v_eq, N.v_ne, N.v_lt, N.v_le, N.v_gt, N.v_ge, N.v_add, N.v_sub, N.v_iadd, N.v_xor, N.v_int, N.tru_b, N.pd_d, N.data_nil, N.data_cons, N.len_t, N.v_tupT, N.g_name, N.isNone_n, N.isNone_t, N.isNone_i, N.v_isN, N.v_isNn, N.v_eqB, N.v_neB, List.set_cons_succ, List.set_cons_zero, List.getElem?_cons_succ, List.getElem?_cons_zero, Bool.not_true, Bool.not_false, Bool.false_eq_true, Bool.true_eq_false, eq_self, true_implies, false_implies, true_and, and_true, decide_true, decide_false, Int.zero_add, N.R_sl, N.R_it, R_oNone, R_oSome, wipeN, N.R_lst, N.R_mkF, N.R_mkT, N.R_meth, N.v_addT, Ri_rng1, Ri_rng2, Ri_seq, it_bd0, len_side, h.la, lranks_ok h]
  refine ⟨by simp [lim], ?_⟩
  simp only [g_tup, gs_len, gs_cons, gs_nil, Rs_nil, R_call, R_cons, R_nil, R_Var, R_C, R_bin, R_cmp, R_tcmp, R_tOr, R_tAnd, R_tNot, R_tVal, R_tTrue, R_ite, R_eAnd, R_eOr, R_eNot, R_neg, R_tup, R_isi, R_some, Rc_some, N.v_eq, N.v_ne, N.v_lt, N.v_le, N.v_gt, N.v_ge, N.v_add, N.v_sub, N.v_iadd, N.v_xor, N.v_int, N.tru_b, N.pd_d, N.data_nil, N.data_cons, N.len_t, N.v_tupT, N.g_name, N.isNone_n, N.isNone_t, N.isNone_i, N.v_isN, N.v_isNn, N.v_eqB, N.v_neB, List.set_cons_succ, List.set_cons_zero, List.getElem?_cons_succ, List.getElem?_cons_zero, Bool.not_true, Bool.not_false, Bool.false_eq_true, Bool.true_eq_false, eq_self, true_implies, false_implies, true_and, and_true, decide_true, decide_false, Int.zero_add, N.R_sl, N.R_it, R_oNone, R_oSome, wipeN, N.R_lst, N.R_mkF, N.R_mkT, N.R_meth, N.v_addT, Ri_rng1, Ri_rng2, Ri_seq, if_pos (show ([PyData.int (n : Nat), rksD n (rkB n (mvB a b))]).length = 2 from rfl)]
  have fx := fun w i hi => rk_fix ok (w := w) (i := i) hi
  have tr : rksD n (rkB n (mvB b a)) = rksD n (fun w i => rkB n (mvB a b) (!w) i) := by
    refine rks_congr fun w i hi => ?_
    rw [mv_turn]
    exact rk_turn n w i
  have hare := fun {x : PyData} (hx : wd 1000 10 x) (s : Sto) => are_ok h hx s
  have hwin := fun (w : Bool) {i : Nat} (hi : i < n) (s : Sto) => win_ok h w hi s
  have hbm := fun (w : Bool) {i : Nat} (hi : i < n) (s : Sto) => best_move_ok h w hi s
  have hlb := fun (w : Bool) {i : Nat} (hi : i < n) (s : Sto) => lbest_ok h (rkB n (mvB a b)) w hi s
  have hll := fun (w : Bool) {i : Nat} (hi : i < n) {l : Nat} (hl : l ≤ 100) (s : Sto) => lline_ok h w hi hl s
  have hln := fun (w : Bool) {i : Nat} (hi : i < n) {l : Nat} (hl : l ≤ 100) (s : Sto) => line_ok h w hi hl s
  have hlen := fun (k : Nat) (w : Bool) (i : Nat) (hi : i < n) => line_len ok k w i hi
  have hbnt := bnt_rks n40 (mvB a b)
  have hlp := loopless_ok h s
  have hr1 := ranks_ok h
  have hr2 := fun s => (ranks_ok h.turn s).trans (by rw [tr])
  rw [N.thn_nx, Rs_seq, Rs_if]
  simp only [Rs_nil, R_call, R_cons, R_nil, R_Var, R_C, R_bin, R_cmp, R_tcmp, R_tOr, R_tAnd, R_tNot, R_tVal, R_tTrue, R_ite, R_eAnd, R_eOr, R_eNot, R_neg, R_tup, R_isi, R_some, Rc_some, N.v_eq, N.v_ne, N.v_lt, N.v_le, N.v_gt, N.v_ge, N.v_add, N.v_sub, N.v_iadd, N.v_xor, N.v_int, N.tru_b, N.pd_d, N.data_nil, N.data_cons, N.len_t, N.v_tupT, N.g_name, N.isNone_n, N.isNone_t, N.isNone_i, N.v_isN, N.v_isNn, N.v_eqB, N.v_neB, List.set_cons_succ, List.set_cons_zero, List.getElem?_cons_succ, List.getElem?_cons_zero, Bool.not_true, Bool.not_false, Bool.false_eq_true, Bool.true_eq_false, eq_self, true_implies, false_implies, true_and, and_true, decide_true, decide_false, Int.zero_add, N.R_sl, N.R_it, R_oNone, R_oSome, wipeN, N.R_lst, N.R_mkF, N.R_mkT, N.R_meth, N.v_addT, Ri_rng1, Ri_rng2, Ri_seq, hr1]
  refine R_same (sok_rks n40 _) ?_
  simp only [Rs_nil, R_call, R_cons, R_nil, R_Var, R_C, R_bin, R_cmp, R_tcmp, R_tOr, R_tAnd, R_tNot, R_tVal, R_tTrue, R_ite, R_eAnd, R_eOr, R_eNot, R_neg, R_tup, R_isi, R_some, Rc_some, N.v_eq, N.v_ne, N.v_lt, N.v_le, N.v_gt, N.v_ge, N.v_add, N.v_sub, N.v_iadd, N.v_xor, N.v_int, N.tru_b, N.pd_d, N.data_nil, N.data_cons, N.len_t, N.v_tupT, N.g_name, N.isNone_n, N.isNone_t, N.isNone_i, N.v_isN, N.v_isNn, N.v_eqB, N.v_neB, List.set_cons_succ, List.set_cons_zero, List.getElem?_cons_succ, List.getElem?_cons_zero, Bool.not_true, Bool.not_false, Bool.false_eq_true, Bool.true_eq_false, eq_self, true_implies, false_implies, true_and, and_true, decide_true, decide_false, Int.zero_add, N.R_sl, N.R_it, R_oNone, R_oSome, wipeN, N.R_lst, N.R_mkF, N.R_mkT, N.R_meth, N.v_addT, Ri_rng1, Ri_rng2, Ri_seq, turned_ok, hr2, R_rev]
  generalize hrk : rkB n (mvB a b) = rk at *
  rw [show D.d (rksD n rk) = .d (.tuple [rowR n rk true, rowR n rk false]) from rfl]
  simp only [List.reverse_cons, List.reverse_nil, List.nil_append, List.cons_append]
  rw [rev_rks, show PyData.tuple [rowR n (fun w i => rk (!w) i) true, rowR n (fun w i => rk (!w) i) false] = rksD n (fun w i => rk (!w) i) from rfl]
  refine R_same (sok_rks n40 _) ?_
  simp only [Rs_nil, R_call, R_cons, R_nil, R_Var, R_C, R_bin, R_cmp, R_tcmp, R_tOr, R_tAnd, R_tNot, R_tVal, R_tTrue, R_ite, R_eAnd, R_eOr, R_eNot, R_neg, R_tup, R_isi, R_some, Rc_some, N.v_eq, N.v_ne, N.v_lt, N.v_le, N.v_gt, N.v_ge, N.v_add, N.v_sub, N.v_iadd, N.v_xor, N.v_int, N.tru_b, N.pd_d, N.data_nil, N.data_cons, N.len_t, N.v_tupT, N.g_name, N.isNone_n, N.isNone_t, N.isNone_i, N.v_isN, N.v_isNn, N.v_eqB, N.v_neB, List.set_cons_succ, List.set_cons_zero, List.getElem?_cons_succ, List.getElem?_cons_zero, Bool.not_true, Bool.not_false, Bool.false_eq_true, Bool.true_eq_false, eq_self, true_implies, false_implies, true_and, and_true, decide_true, decide_false, Int.zero_add, N.R_sl, N.R_it, R_oNone, R_oSome, wipeN, N.R_lst, N.R_mkF, N.R_mkT, N.R_meth, N.v_addT, Ri_rng1, Ri_rng2, Ri_seq]
  rw [show PyData.tuple [rowR n rk true, rowR n rk false] = rksD n rk from rfl]
  try rw [Rs_nil]
  rw [N.thn_nx, Rs_seq]
  refine Rs.imp (Q := fun fl e2 s2 => fl = .nx ∧ s2 = s ∧ e2 = [some (.r 1), some (.d (bdD a b)), some (.d (.int (n : Nat))), some (.d (rksD n rk)), none, none, none, none, none, none, none, none, none, none, none, none, none]) ?_ ?_
  · rw [Rs_if]
    simp only [Rs_nil, R_call, R_cons, R_nil, R_Var, R_C, R_bin, R_cmp, R_tcmp, R_tOr, R_tAnd, R_tNot, R_tVal, R_tTrue, R_ite, R_eAnd, R_eOr, R_eNot, R_neg, R_tup, R_isi, R_some, Rc_some, N.v_eq, N.v_ne, N.v_lt, N.v_le, N.v_gt, N.v_ge, N.v_add, N.v_sub, N.v_iadd, N.v_xor, N.v_int, N.tru_b, N.pd_d, N.data_nil, N.data_cons, N.len_t, N.v_tupT, N.g_name, N.isNone_n, N.isNone_t, N.isNone_i, N.v_isN, N.v_isNn, N.v_eqB, N.v_neB, List.set_cons_succ, List.set_cons_zero, List.getElem?_cons_succ, List.getElem?_cons_zero, Bool.not_true, Bool.not_false, Bool.false_eq_true, Bool.true_eq_false, eq_self, true_implies, false_implies, true_and, and_true, decide_true, decide_false, Int.zero_add, N.R_sl, N.R_it, R_oNone, R_oSome, wipeN, N.R_lst, N.R_mkF, N.R_mkT, N.R_meth, N.v_addT, Ri_rng1, Ri_rng2, Ri_seq]
    refine hlp.imp fun d s1 ⟨h1, lp, h2, h3⟩ => ?_
    subst h1 h2
    have hin : ∀ (w : Bool) (s : Sto), cIn false s (.d .none) (.d (rowR n rk w)) = some (decide (none ∈ (List.range n).map (rk w))) := fun w s => by
      have := in_rkT (neg := false) (l := (List.range n).map (rk w)) (o := none) (s := s)
      rw [if_neg Bool.false_ne_true, List.map_map] at this
      exact this
    have cb : ∀ s, cIsB false s (.d (.bool lp)) (.d (.bool true)) = some lp := fun s => by cases lp <;> rfl
    simp only [cb, Rc_some]
    refine ⟨fun h4 => ?_, fun h4 => ?_⟩
    · have nn : ∀ w, decide (none ∈ (List.range n).map (rk w)) = false := fun w => decide_eq_false fun hm => by
        obtain ⟨i, hi, e⟩ := List.mem_map.mp hm
        exact h3 h4 w i (List.mem_range.mp hi) e
      simp only [Rs_nil, R_call, R_cons, R_nil, R_Var, R_C, R_bin, R_cmp, R_tcmp, R_tOr, R_tAnd, R_tNot, R_tVal, R_tTrue, R_ite, R_eAnd, R_eOr, R_eNot, R_neg, R_tup, R_isi, R_some, Rc_some, N.v_eq, N.v_ne, N.v_lt, N.v_le, N.v_gt, N.v_ge, N.v_add, N.v_sub, N.v_iadd, N.v_xor, N.v_int, N.tru_b, N.pd_d, N.data_nil, N.data_cons, N.len_t, N.v_tupT, N.g_name, N.isNone_n, N.isNone_t, N.isNone_i, N.v_isN, N.v_isNn, N.v_eqB, N.v_neB, List.set_cons_succ, List.set_cons_zero, List.getElem?_cons_succ, List.getElem?_cons_zero, Bool.not_true, Bool.not_false, Bool.false_eq_true, Bool.true_eq_false, eq_self, true_implies, false_implies, true_and, and_true, decide_true, decide_false, Int.zero_add, N.R_sl, N.R_it, R_oNone, R_oSome, wipeN, N.R_lst, N.R_mkF, N.R_mkT, N.R_meth, N.v_addT, Ri_rng1, Ri_rng2, Ri_seq, it_rks0, it_rks1, hin, nn]
      first | done | (rw [Rs_nil]; simp) | simp
    · first | done | (rw [Rs_nil]; simp) | simp
  rintro fl e2 s2 ⟨rfl, rfl, rfl⟩
  rw [N.thn_nx, Rs_seq, Rs_par]
  simp only [Rs_nil, R_call, R_cons, R_nil, R_Var, R_C, R_bin, R_cmp, R_tcmp, R_tOr, R_tAnd, R_tNot, R_tVal, R_tTrue, R_ite, R_eAnd, R_eOr, R_eNot, R_neg, R_tup, R_isi, R_some, Rc_some, N.v_eq, N.v_ne, N.v_lt, N.v_le, N.v_gt, N.v_ge, N.v_add, N.v_sub, N.v_iadd, N.v_xor, N.v_int, N.tru_b, N.pd_d, N.data_nil, N.data_cons, N.len_t, N.v_tupT, N.g_name, N.isNone_n, N.isNone_t, N.isNone_i, N.v_isN, N.v_isNn, N.v_eqB, N.v_neB, List.set_cons_succ, List.set_cons_zero, List.getElem?_cons_succ, List.getElem?_cons_zero, Bool.not_true, Bool.not_false, Bool.false_eq_true, Bool.true_eq_false, eq_self, true_implies, false_implies, true_and, and_true, decide_true, decide_false, Int.zero_add, N.R_sl, N.R_it, R_oNone, R_oSome, wipeN, N.R_lst, N.R_mkF, N.R_mkT, N.R_meth, N.v_addT, Ri_rng1, Ri_rng2, Ri_seq]
  refine R_draw t (m := n) (by omega) (Nat.lt_of_le_of_lt n40 (by decide)) fun k s3 hk t3 => ?_
  refine R_draw t3 (m := 2) (by decide) (by decide) fun sd s4 hsd t4 => ?_
  refine ⟨by simp, ?_⟩
  simp only [List.zip_cons_cons, List.zip_nil_right, List.foldl_cons, List.foldl_nil, List.set_cons_succ, List.set_cons_zero]
  have l4 := t4.len
  have mt1 : ∀ (x : PyData) (s : Sto), oMul s (.d (.tuple [x])) (.d (.int (n : Nat))) = some (.d (.tuple (List.replicate n x)), s) := fun x s => by
    rw [v_mulT (by simp) (by omega) (by simp), rep1]
  rw [N.thn_nx, Rs_seq, Rs_set]
  have eD : rksD n rk = PyData.tuple [rowR n rk true, rowR n rk false] := rfl
  rw [eD]
  simp only [Rs_nil, R_call, R_cons, R_nil, R_Var, R_C, R_bin, R_cmp, R_tcmp, R_tOr, R_tAnd, R_tNot, R_tVal, R_tTrue, R_ite, R_eAnd, R_eOr, R_eNot, R_neg, R_tup, R_isi, R_some, Rc_some, N.v_eq, N.v_ne, N.v_lt, N.v_le, N.v_gt, N.v_ge, N.v_add, N.v_sub, N.v_iadd, N.v_xor, N.v_int, N.tru_b, N.pd_d, N.data_nil, N.data_cons, N.len_t, N.v_tupT, N.g_name, N.isNone_n, N.isNone_t, N.isNone_i, N.v_isN, N.v_isNn, N.v_eqB, N.v_neB, List.set_cons_succ, List.set_cons_zero, List.getElem?_cons_succ, List.getElem?_cons_zero, Bool.not_true, Bool.not_false, Bool.false_eq_true, Bool.true_eq_false, eq_self, true_implies, false_implies, true_and, and_true, decide_true, decide_false, Int.zero_add, N.R_sl, N.R_it, R_oNone, R_oSome, wipeN, N.R_lst, N.R_mkF, N.R_mkT, N.R_meth, N.v_addT, Ri_rng1, Ri_rng2, Ri_seq, R_rev, mt1]
  refine ⟨by simp [lim], by simp [lim], by simp [lim], by simp [lim], by simp [lim], by simp [lim], by simp [lim], by simp [lim], by simp [lim], by simp [lim], ?_⟩
  have rowW : ∀ w, ∃ r : List PyData, rowR n rk w = .tuple r ∧ r.length = n ∧ ∀ z ∈ r, ∃ o, z = encR o := fun w => ⟨_, rfl, by rw [List.length_map, List.length_range], fun z hz => by
    obtain ⟨i, _, rfl⟩ := List.mem_map.mp hz
    exact ⟨_, rfl⟩⟩
  refine R_lcm ([true, false] : List Bool) (fun w => .d (rowR n rk w)) (fun w => .tuple (N.cutD ((List.range n).map fun i => encR (rk w i)) (some 1) none)) ?_ (fun w hw acc => ?_) (by simp [lim]) ?_
  · rw [Ri_seq]
    simp only [Rs_nil, R_call, R_cons, R_nil, R_Var, R_C, R_bin, R_cmp, R_tcmp, R_tOr, R_tAnd, R_tNot, R_tVal, R_tTrue, R_ite, R_eAnd, R_eOr, R_eNot, R_neg, R_tup, R_isi, R_some, Rc_some, N.v_eq, N.v_ne, N.v_lt, N.v_le, N.v_gt, N.v_ge, N.v_add, N.v_sub, N.v_iadd, N.v_xor, N.v_int, N.tru_b, N.pd_d, N.data_nil, N.data_cons, N.len_t, N.v_tupT, N.g_name, N.isNone_n, N.isNone_t, N.isNone_i, N.v_isN, N.v_isNn, N.v_eqB, N.v_neB, List.set_cons_succ, List.set_cons_zero, List.getElem?_cons_succ, List.getElem?_cons_zero, Bool.not_true, Bool.not_false, Bool.false_eq_true, Bool.true_eq_false, eq_self, true_implies, false_implies, true_and, and_true, decide_true, decide_false, Int.zero_add, N.R_sl, N.R_it, R_oNone, R_oSome, wipeN, N.R_lst, N.R_mkF, N.R_mkT, N.R_meth, N.v_addT, Ri_rng1, Ri_rng2, Ri_seq]
    rfl
  · rw [g_name, Rc_some]
    rw [show D.d (rowR n rk w) = .d (.tuple ((List.range n).map fun i => encR (rk w i))) from rfl]
    simp only [Rs_nil, R_call, R_cons, R_nil, R_Var, R_C, R_bin, R_cmp, R_tcmp, R_tOr, R_tAnd, R_tNot, R_tVal, R_tTrue, R_ite, R_eAnd, R_eOr, R_eNot, R_neg, R_tup, R_isi, R_some, Rc_some, N.v_eq, N.v_ne, N.v_lt, N.v_le, N.v_gt, N.v_ge, N.v_add, N.v_sub, N.v_iadd, N.v_xor, N.v_int, N.tru_b, N.pd_d, N.data_nil, N.data_cons, N.len_t, N.v_tupT, N.g_name, N.isNone_n, N.isNone_t, N.isNone_i, N.v_isN, N.v_isNn, N.v_eqB, N.v_neB, List.set_cons_succ, List.set_cons_zero, List.getElem?_cons_succ, List.getElem?_cons_zero, Bool.not_true, Bool.not_false, Bool.false_eq_true, Bool.true_eq_false, eq_self, true_implies, false_implies, true_and, and_true, decide_true, decide_false, Int.zero_add, N.R_sl, N.R_it, R_oNone, R_oSome, wipeN, N.R_lst, N.R_mkF, N.R_mkT, N.R_meth, N.v_addT, Ri_rng1, Ri_rng2, Ri_seq]
    try exact ⟨rfl, rfl⟩
  rw [v_tupL, R_some, ← eD]
  refine ⟨by simp [lim], ?_⟩
  have wr : ∀ w {k : Nat}, wd 100 (k + 2) (rowR n rk w) := fun w {k} => wd_row n40 rk w
  have wrep : ∀ (x : PyData) {k : Nat}, wd 100 (k + 1) x → wd 100 (k + 2) (.tuple (List.replicate n x)) := fun x {k} hx => ⟨by rw [List.length_replicate]; omega, fun z hz => by rw [List.eq_of_mem_replicate hz]; exact hx⟩
  have wcut : ∀ w lo hi {k : Nat}, wd 100 (k + 2) (.tuple (N.cutD ((List.range n).map fun i => encR (rk w i)) lo hi)) := fun w lo hi {k} => by
    refine ⟨?_, fun z hz => ?_⟩
    · have := cutD_len ((List.range n).map fun i => encR (rk w i)) lo hi
      rw [List.length_map, List.length_range] at this
      omega
    · obtain ⟨i, _, rfl⟩ := List.mem_map.mp (cut_memN hz)
      exact wd_enc _
  have wt : ∀ (ys : List PyData) {k : Nat}, ys.length ≤ 100 → (∀ z ∈ ys, wd 100 k z) → wd 100 (k + 1) (.tuple ys) := fun ys {k} h1 h2 => ⟨h1, h2⟩
  have w2 : ∀ z ∈ [rowR n rk true, rowR n rk false], wd 100 5 z := fun z hz => by
    simp only [List.mem_cons, List.not_mem_nil, or_false] at hz
    rcases hz with rfl | rfl
    · exact wr true
    · exact wr false
  obtain ⟨X0, hX0, hX0l, eX0⟩ : ∃ X0 : List PyData, (∀ z ∈ X0, wd 100 6 z) ∧ X0.length = 10 ∧ [D.d (rksD n rk), D.d (.tuple [rowR n rk true, rowR n rk false].reverse), D.d (.tuple (N.cutD [rowR n rk true, rowR n rk false] none (some 1))), D.d (.tuple ([rowR n rk true, rowR n rk false] ++ [.tuple []])), D.d .none, D.d (.tuple []), D.d (.int (n : Nat)), D.d (.tuple [.tuple (List.replicate n .none), .tuple (List.replicate n .none)]), D.d (.tuple [.tuple (List.replicate n (.int 0)), .tuple (List.replicate n (.int 0))]), D.d (.tuple (([true, false] : List Bool).map fun w => .tuple (N.cutD ((List.range n).map fun i => encR (rk w i)) (some 1) none)))] = X0.map D.d := by
    refine ⟨[rksD n rk, .tuple [rowR n rk true, rowR n rk false].reverse, .tuple (N.cutD [rowR n rk true, rowR n rk false] none (some 1)), .tuple ([rowR n rk true, rowR n rk false] ++ [.tuple []]), .none, .tuple [], .int (n : Nat), .tuple [.tuple (List.replicate n .none), .tuple (List.replicate n .none)], .tuple [.tuple (List.replicate n (.int 0)), .tuple (List.replicate n (.int 0))], .tuple (([true, false] : List Bool).map fun w => .tuple (N.cutD ((List.range n).map fun i => encR (rk w i)) (some 1) none))], fun z hz => ?_, rfl, rfl⟩
    simp only [List.mem_cons, List.not_mem_nil, or_false] at hz
    rcases hz with rfl | rfl | rfl | rfl | rfl | rfl | rfl | rfl | rfl | rfl
    · exact wd_rks n40 rk
    · exact wt _ (by simp) fun z hz => w2 z (List.mem_reverse.mp hz)
    · exact wt _ (Nat.le_trans (cutD_len _ _ _) (by simp)) fun z hz => w2 z (cut_memN hz)
    · exact wt _ (by simp) fun z hz => (List.mem_append.mp hz).elim (w2 z) fun h => by rw [List.mem_singleton.mp h]; exact ⟨by simp, by simp⟩
    · trivial
    · exact ⟨by simp, by simp⟩
    · trivial
    · exact wt _ (by simp) fun z hz => by
        simp only [List.mem_cons, List.not_mem_nil, or_false, or_self] at hz
        subst hz
        exact wrep _ trivial
    · exact wt _ (by simp) fun z hz => by
        simp only [List.mem_cons, List.not_mem_nil, or_false, or_self] at hz
        subst hz
        exact wrep _ trivial
    · exact wt _ (by simp) fun z hz => by
        obtain ⟨w, _, rfl⟩ := List.mem_map.mp hz
        exact wcut w _ _
  rw [eX0]
  clear eX0
  have hsd2 := it_rksN (n := n) rk hsd
  generalize sdW sd = wS at hsd2
  have itk : ∀ s, itF s (.d (rowR n rk wS)) (.d (.int (k : Nat))) = some (.d (encR (rk wS k))) := fun s => it_rowR hk s
  have orv : ∀ {e : Lo} {s : Sto}, e[3]? = some (some (.d (rksD n rk))) → e[4]? = some (some (.d (.int (k : Nat)))) → e[5]? = some (some (.d (.int (sd : Nat)))) → R (eBin (oAdd false) (eOr (eIt (eIt (eVar 3) (eVar 5)) (eVar 4)) (eC (.int 0))) (eC (.int 2)) e s) fun d s' => d = .d (.int ((((rk wS k).getD 0 : Nat) : Int) + 2)) ∧ s' = s := fun {e s} h3 h4 h5 => by
    simp only [Rs_nil, R_call, R_cons, R_nil, R_Var, R_C, R_bin, R_cmp, R_tcmp, R_tOr, R_tAnd, R_tNot, R_tVal, R_tTrue, R_ite, R_eAnd, R_eOr, R_eNot, R_neg, R_tup, R_isi, R_some, Rc_some, N.v_eq, N.v_ne, N.v_lt, N.v_le, N.v_gt, N.v_ge, N.v_add, N.v_sub, N.v_iadd, N.v_xor, N.v_int, N.tru_b, N.pd_d, N.data_nil, N.data_cons, N.len_t, N.v_tupT, N.g_name, N.isNone_n, N.isNone_t, N.isNone_i, N.v_isN, N.v_isNn, N.v_eqB, N.v_neB, List.set_cons_succ, List.set_cons_zero, List.getElem?_cons_succ, List.getElem?_cons_zero, Bool.not_true, Bool.not_false, Bool.false_eq_true, Bool.true_eq_false, eq_self, true_implies, false_implies, true_and, and_true, decide_true, decide_false, Int.zero_add, N.R_sl, N.R_it, R_oNone, R_oSome, wipeN, N.R_lst, N.R_mkF, N.R_mkT, N.R_meth, N.v_addT, Ri_rng1, Ri_rng2, Ri_seq, h3, h4, h5, hsd2, itk]
    cases rk wS k with
    | none =>
      simp only [Rs_nil, R_call, R_cons, R_nil, R_Var, R_C, R_bin, R_cmp, R_tcmp, R_tOr, R_tAnd, R_tNot, R_tVal, R_tTrue, R_ite, R_eAnd, R_eOr, R_eNot, R_neg, R_tup, R_isi, R_some, Rc_some, N.v_eq, N.v_ne, N.v_lt, N.v_le, N.v_gt, N.v_ge, N.v_add, N.v_sub, N.v_iadd, N.v_xor, N.v_int, N.tru_b, N.pd_d, N.data_nil, N.data_cons, N.len_t, N.v_tupT, N.g_name, N.isNone_n, N.isNone_t, N.isNone_i, N.v_isN, N.v_isNn, N.v_eqB, N.v_neB, List.set_cons_succ, List.set_cons_zero, List.getElem?_cons_succ, List.getElem?_cons_zero, Bool.not_true, Bool.not_false, Bool.false_eq_true, Bool.true_eq_false, eq_self, true_implies, false_implies, true_and, and_true, decide_true, decide_false, Int.zero_add, N.R_sl, N.R_it, R_oNone, R_oSome, wipeN, N.R_lst, N.R_mkF, N.R_mkT, N.R_meth, N.v_addT, Ri_rng1, Ri_rng2, Ri_seq, encR, show ∀ s, truD s (.d .none) = some false from fun _ => rfl]
      first | exact ⟨rfl, rfl⟩ | rfl
    | some t =>
      simp only [Rs_nil, R_call, R_cons, R_nil, R_Var, R_C, R_bin, R_cmp, R_tcmp, R_tOr, R_tAnd, R_tNot, R_tVal, R_tTrue, R_ite, R_eAnd, R_eOr, R_eNot, R_neg, R_tup, R_isi, R_some, Rc_some, N.v_eq, N.v_ne, N.v_lt, N.v_le, N.v_gt, N.v_ge, N.v_add, N.v_sub, N.v_iadd, N.v_xor, N.v_int, N.tru_b, N.pd_d, N.data_nil, N.data_cons, N.len_t, N.v_tupT, N.g_name, N.isNone_n, N.isNone_t, N.isNone_i, N.v_isN, N.v_isNn, N.v_eqB, N.v_neB, List.set_cons_succ, List.set_cons_zero, List.getElem?_cons_succ, List.getElem?_cons_zero, Bool.not_true, Bool.not_false, Bool.false_eq_true, Bool.true_eq_false, eq_self, true_implies, false_implies, true_and, and_true, decide_true, decide_false, Int.zero_add, N.R_sl, N.R_it, R_oNone, R_oSome, wipeN, N.R_lst, N.R_mkF, N.R_mkT, N.R_meth, N.v_addT, Ri_rng1, Ri_rng2, Ri_seq, encR, tru_i]
      refine ⟨fun h0 => ?_, fun _ => ?_⟩
      · have h0 : t = 0 := by simpa using h0
        rw [h0]
        first | exact ⟨rfl, rfl⟩ | rfl
      · first | exact ⟨rfl, rfl⟩ | rfl
  generalize ((((rk wS k).getD 0 : Nat) : Int) + 2) = v0 at orv
  rw [N.thn_nx, Rs_seq]
  refine Rs_for ([.none, .int 0, .int 1, .int 2, .bool true, .int v0] : List PyData) (fun x => .d x) (fun u e s' => ∃ X : List PyData, (∀ z ∈ X, wd 100 6 z) ∧ X.length = 10 + u ∧ s' = s4 ++ [.lst (X.map .d)] ∧ e = [some (.r 1), some (.d (bdD a b)), some (.d (.int (n : Nat))), some (.d (rksD n rk)), some (.d (.int (k : Nat))), some (.d (.int (sd : Nat))), some (.r s4.length), none, none, none, none, none, none, none, none, none, none]) ?_ (fun u x e s' hu hq => ?_) (fun e s' hq => ?_)
  · refine Ri_tupP ?_
    simp only [R_tup, R_cons, R_nil, R_C]
    refine (orv rfl rfl rfl).imp fun d s' ⟨h1, h2⟩ => ?_
    subst h1 h2
    simp only [Rs_nil, R_call, R_cons, R_nil, R_Var, R_C, R_bin, R_cmp, R_tcmp, R_tOr, R_tAnd, R_tNot, R_tVal, R_tTrue, R_ite, R_eAnd, R_eOr, R_eNot, R_neg, R_tup, R_isi, R_some, Rc_some, N.v_eq, N.v_ne, N.v_lt, N.v_le, N.v_gt, N.v_ge, N.v_add, N.v_sub, N.v_iadd, N.v_xor, N.v_int, N.tru_b, N.pd_d, N.data_nil, N.data_cons, N.len_t, N.v_tupT, N.g_name, N.isNone_n, N.isNone_t, N.isNone_i, N.v_isN, N.v_isNn, N.v_eqB, N.v_neB, List.set_cons_succ, List.set_cons_zero, List.getElem?_cons_succ, List.getElem?_cons_zero, Bool.not_true, Bool.not_false, Bool.false_eq_true, Bool.true_eq_false, eq_self, true_implies, false_implies, true_and, and_true, decide_true, decide_false, Int.zero_add, N.R_sl, N.R_it, R_oNone, R_oSome, wipeN, N.R_lst, N.R_mkF, N.R_mkT, N.R_meth, N.v_addT, Ri_rng1, Ri_rng2, Ri_seq]
    refine ⟨by simp [lim], _, rfl, rfl, ?_⟩
    first | exact ⟨rfl, X0, hX0, hX0l, rfl, rfl⟩ | exact ⟨X0, hX0, hX0l, rfl, rfl⟩ | exact ⟨X0, hX0, hX0l, rfl⟩
  · obtain ⟨X, hX, hXl, rfl, rfl⟩ := hq
    have hul : u < 6 := (List.getElem?_eq_some_iff.mp hu).1
    have hxm := List.mem_of_getElem? hu
    have wx : ∀ {k : Nat}, wd 100 (k + 1) x := fun {k} => by
      simp only [List.mem_cons, List.not_mem_nil, or_false] at hxm
      rcases hxm with rfl | rfl | rfl | rfl | rfl | rfl <;> trivial
    have gX : (s4 ++ [Cell.lst (X.map D.d)])[s4.length]? = some (.lst (X.map .d)) := by simp
    have erow : rowR n rk wS = .tuple ((List.range n).map fun i => encR (rk wS i)) := rfl
    rw [g_name, Rc_some, Rs_seq, Rs_set]
    simp only [Rs_nil, R_call, R_cons, R_nil, R_Var, R_C, R_bin, R_cmp, R_tcmp, R_tOr, R_tAnd, R_tNot, R_tVal, R_tTrue, R_ite, R_eAnd, R_eOr, R_eNot, R_neg, R_tup, R_isi, R_some, Rc_some, N.v_eq, N.v_ne, N.v_lt, N.v_le, N.v_gt, N.v_ge, N.v_add, N.v_sub, N.v_iadd, N.v_xor, N.v_int, N.tru_b, N.pd_d, N.data_nil, N.data_cons, N.len_t, N.v_tupT, N.g_name, N.isNone_n, N.isNone_t, N.isNone_i, N.v_isN, N.v_isNn, N.v_eqB, N.v_neB, List.set_cons_succ, List.set_cons_zero, List.getElem?_cons_succ, List.getElem?_cons_zero, Bool.not_true, Bool.not_false, Bool.false_eq_true, Bool.true_eq_false, eq_self, true_implies, false_implies, true_and, and_true, decide_true, decide_false, Int.zero_add, N.R_sl, N.R_it, R_oNone, R_oSome, wipeN, N.R_lst, N.R_mkF, N.R_mkT, N.R_meth, N.v_addT, Ri_rng1, Ri_rng2, Ri_seq, hsd2]
    rw [erow]
    simp only [Rs_nil, R_call, R_cons, R_nil, R_Var, R_C, R_bin, R_cmp, R_tcmp, R_tOr, R_tAnd, R_tNot, R_tVal, R_tTrue, R_ite, R_eAnd, R_eOr, R_eNot, R_neg, R_tup, R_isi, R_some, Rc_some, N.v_eq, N.v_ne, N.v_lt, N.v_le, N.v_gt, N.v_ge, N.v_add, N.v_sub, N.v_iadd, N.v_xor, N.v_int, N.tru_b, N.pd_d, N.data_nil, N.data_cons, N.len_t, N.v_tupT, N.g_name, N.isNone_n, N.isNone_t, N.isNone_i, N.v_isN, N.v_isNn, N.v_eqB, N.v_neB, List.set_cons_succ, List.set_cons_zero, List.getElem?_cons_succ, List.getElem?_cons_zero, Bool.not_true, Bool.not_false, Bool.false_eq_true, Bool.true_eq_false, eq_self, true_implies, false_implies, true_and, and_true, decide_true, decide_false, Int.zero_add, N.R_sl, N.R_it, R_oNone, R_oSome, wipeN, N.R_lst, N.R_mkF, N.R_mkT, N.R_meth, N.v_addT, Ri_rng1, Ri_rng2, Ri_seq]
    have c1 := cutD_len ((List.range n).map fun i => encR (rk wS i)) none (some (k : Int))
    have c2 := cutD_len ((List.range n).map fun i => encR (rk wS i)) (some ((k : Int) + 1)) none
    rw [List.length_map, List.length_range] at c1 c2
    refine ⟨by simp [lim], by simp only [lim, List.length_cons, List.length_nil]; omega, by rw [List.length_append]; simp only [lim, List.length_cons, List.length_nil]; omega, ?_⟩
    have wnew : wd 100 5 (.tuple (N.cutD ((List.range n).map fun i => encR (rk wS i)) none (some (k : Int)) ++ [x] ++ N.cutD ((List.range n).map fun i => encR (rk wS i)) (some ((k : Int) + 1)) none)) := by
      refine wt _ (by rw [List.length_append, List.length_append]; simp only [List.length_cons, List.length_nil]; omega) fun z hz => ?_
      rcases List.mem_append.mp hz with hz | hz
      · rcases List.mem_append.mp hz with hz | hz
        · obtain ⟨i, _, rfl⟩ := List.mem_map.mp (cut_memN hz)
          exact wd_enc _
        · rw [List.mem_singleton.mp hz]; exact wx
      · obtain ⟨i, _, rfl⟩ := List.mem_map.mp (cut_memN hz)
        exact wd_enc _
    generalize PyData.tuple (N.cutD ((List.range n).map fun i => encR (rk wS i)) none (some (k : Int)) ++ [x] ++ N.cutD ((List.range n).map fun i => encR (rk wS i)) (some ((k : Int) + 1)) none) = row at wnew
    rw [N.thn_nx, Rs_seq, Rs_expr]
    simp only [Rs_nil, R_call, R_cons, R_nil, R_Var, R_C, R_bin, R_cmp, R_tcmp, R_tOr, R_tAnd, R_tNot, R_tVal, R_tTrue, R_ite, R_eAnd, R_eOr, R_eNot, R_neg, R_tup, R_isi, R_some, Rc_some, N.v_eq, N.v_ne, N.v_lt, N.v_le, N.v_gt, N.v_ge, N.v_add, N.v_sub, N.v_iadd, N.v_xor, N.v_int, N.tru_b, N.pd_d, N.data_nil, N.data_cons, N.len_t, N.v_tupT, N.g_name, N.isNone_n, N.isNone_t, N.isNone_i, N.v_isN, N.v_isNn, N.v_eqB, N.v_neB, List.set_cons_succ, List.set_cons_zero, List.getElem?_cons_succ, List.getElem?_cons_zero, Bool.not_true, Bool.not_false, Bool.false_eq_true, Bool.true_eq_false, eq_self, true_implies, false_implies, true_and, and_true, decide_true, decide_false, Int.zero_add, N.R_sl, N.R_it, R_oNone, R_oSome, wipeN, N.R_lst, N.R_mkF, N.R_mkT, N.R_meth, N.v_addT, Ri_rng1, Ri_rng2, Ri_seq, gX, it_rks0, it_rks1]
    have fin : ∀ {y : PyData}, wd 100 6 y → ∀ z ∈ X ++ [y], wd 100 6 z := fun {y} hy z hz => by
      rcases List.mem_append.mp hz with hz | hz
      · exact hX z hz
      · rw [List.mem_singleton.mp hz]; exact hy
    have wp : ∀ x y, wd 100 5 x → wd 100 5 y → wd 100 6 (.tuple [x, y]) := fun x y h1 h2 => wt _ (by simp) fun z hz => by
      simp only [List.mem_cons, List.not_mem_nil, or_false] at hz
      rcases hz with rfl | rfl
      · exact h1
      · exact h2
    refine ⟨fun _ => ⟨by simp [lim], ?_⟩, fun _ => ⟨by simp [lim], ?_⟩⟩
    · rw [v_app]
      refine ⟨by rw [List.length_map]; simp only [lim]; omega, ?_⟩
      rw [N.set_last, N.thn_nx, Rs_nil, aft_nx, trimE_len (by simp)]
      exact ⟨X ++ [.tuple [row, rowR n rk false]], fin (wp _ _ wnew (wr false)), by simp; omega, by simp, by simp [wipeN]⟩
    · rw [v_app]
      refine ⟨by rw [List.length_map]; simp only [lim]; omega, ?_⟩
      rw [N.set_last, N.thn_nx, Rs_nil, aft_nx, trimE_len (by simp)]
      exact ⟨X ++ [.tuple [rowR n rk true, row]], fin (wp _ _ (wr true) wnew), by simp; omega, by simp, by simp [wipeN]⟩
  obtain ⟨X, hX, hXl, rfl, rfl⟩ := hq
  have hXl : X.length = 16 := hXl
  have t5 : BS (rest ++ [Cell.lst (X.map D.d)]) (s4 ++ [Cell.lst (X.map D.d)]) := t4.app _
  have f5 : Flat (rest ++ [Cell.lst (X.map D.d)]) := flat_snoc f (lst_bel _)
  have e4 : s4.length = rest.length + 2 := by omega
  have gX : ∀ {s5 : Sto}, BS (rest ++ [Cell.lst (X.map D.d)]) s5 → s5[rest.length + 2]? = some (.lst (X.map .d)) := fun {s5} t5 => by
    have := t5.get rest.length
    rw [this]
    simp
  rw [e4]
  generalize s4 ++ [Cell.lst (X.map D.d)] = s5 at t5
  have hfin : ∀ {s6 : Sto}, BS (rest ++ [Cell.lst (X.map D.d)]) s6 → R (N.ret false s2 (.d (.bool true)) s6) Q := fun {s6} t6 => by
    obtain ⟨s7, rfl, t7⟩ := BS.unapp t6
    rw [R_retd, trim_wf (by rw [t7.len, t.len]) (t7.wf f)]
    exact q s7 t7
  generalize hrs : rest ++ [Cell.lst (X.map D.d)] = rs at t5 f5 gX hfin
  rw [N.thn_nx, Rs_seq]
  refine Rs_forE (fun (z : PyData) => .d z) (fun Y e s' => (∀ z ∈ Y, wd 100 6 z) ∧ BS rs s' ∧ e = [some (.r 1), some (.d (bdD a b)), some (.d (.int (n : Nat))), some (.d (rksD n rk)), some (.d (.int (k : Nat))), some (.d (.int (sd : Nat))), some (.r (rest.length + 2)), none, none, none, none, none, none, none, none, none, none]) ?_ (fun Y e s' hq => ?_)
  · rw [Ri_seq, R_bin, R_Var]
    simp only [List.getElem?_cons_succ, List.getElem?_cons_zero]
    refine R_lcJ (List.range 8) (fun k => .d (.int (k : Nat))) (fun k acc s' => BS rs s' ∧ acc.length = k ∧ ∀ z ∈ acc, wd 100 6 z) ?_ ⟨t5, rfl, by simp⟩ (fun k acc s' hq => ?_) (fun k y acc s' hy hq => ?_) (by simp [lim]) (fun acc s' hq => ?_)
    · rw [Ri_rng1]
      simp only [Rs_nil, R_call, R_cons, R_nil, R_Var, R_C, R_bin, R_cmp, R_tcmp, R_tOr, R_tAnd, R_tNot, R_tVal, R_tTrue, R_ite, R_eAnd, R_eOr, R_eNot, R_neg, R_tup, R_isi, R_some, Rc_some, N.v_eq, N.v_ne, N.v_lt, N.v_le, N.v_gt, N.v_ge, N.v_add, N.v_sub, N.v_iadd, N.v_xor, N.v_int, N.tru_b, N.pd_d, N.data_nil, N.data_cons, N.len_t, N.v_tupT, N.g_name, N.isNone_n, N.isNone_t, N.isNone_i, N.v_isN, N.v_isNn, N.v_eqB, N.v_neB, List.set_cons_succ, List.set_cons_zero, List.getElem?_cons_succ, List.getElem?_cons_zero, Bool.not_true, Bool.not_false, Bool.false_eq_true, Bool.true_eq_false, eq_self, true_implies, false_implies, true_and, and_true, decide_true, decide_false, Int.zero_add, N.R_sl, N.R_it, R_oNone, R_oSome, wipeN, N.R_lst, N.R_mkF, N.R_mkT, N.R_meth, N.v_addT, Ri_rng1, Ri_rng2, Ri_seq]
      exact ⟨by decide, rng0N (by decide)⟩
    · have ll : s'.length = s5.length := by rw [hq.1.len, t5.len]
      exact ⟨ll, trim_wf ll (hq.1.wf f5)⟩
    · obtain ⟨t11, hal, haw⟩ := hq
      rw [g_name, Rc_some]
      simp only [Rs_nil, R_call, R_cons, R_nil, R_Var, R_C, R_bin, R_cmp, R_tcmp, R_tOr, R_tAnd, R_tNot, R_tVal, R_tTrue, R_ite, R_eAnd, R_eOr, R_eNot, R_neg, R_tup, R_isi, R_some, Rc_some, N.v_eq, N.v_ne, N.v_lt, N.v_le, N.v_gt, N.v_ge, N.v_add, N.v_sub, N.v_iadd, N.v_xor, N.v_int, N.tru_b, N.pd_d, N.data_nil, N.data_cons, N.len_t, N.v_tupT, N.g_name, N.isNone_n, N.isNone_t, N.isNone_i, N.v_isN, N.v_isNn, N.v_eqB, N.v_neB, List.set_cons_succ, List.set_cons_zero, List.getElem?_cons_succ, List.getElem?_cons_zero, Bool.not_true, Bool.not_false, Bool.false_eq_true, Bool.true_eq_false, eq_self, true_implies, false_implies, true_and, and_true, decide_true, decide_false, Int.zero_add, N.R_sl, N.R_it, R_oNone, R_oSome, wipeN, N.R_lst, N.R_mkF, N.R_mkT, N.R_meth, N.v_addT, Ri_rng1, Ri_rng2, Ri_seq]
      have t12 := t11.app [Cell.lst (acc.map D.d)]
      have f12 : Flat (rs ++ [Cell.lst (acc.map D.d)]) := flat_snoc f5 (lst_bel _)
      refine R.imp (lawbent_ok f12 (B := 40) (by decide) (by decide) 3 6 (rksD n rk) _ (by decide) t12 hbnt) fun d s14 hh => ?_
      obtain ⟨z, rfl, hz, t13⟩ := hh
      obtain ⟨s15, rfl, t14⟩ := BS.unapp (g := [Cell.lst (acc.map D.d)]) t13
      refine ⟨z, s15, rfl, rfl, t14, by simp [hal], fun y hy => ?_⟩
      rcases List.mem_append.mp hy with hy | hy
      · exact haw y hy
      · rw [List.mem_singleton.mp hy]; exact wd_up (by decide) (by decide) hz
    · obtain ⟨t11, hal, haw⟩ := hq
      rw [List.length_range] at hal
      refine R_addRd (gX t11) (by simp only [lim]; omega) ?_
      refine ⟨X ++ acc, rfl, by trivial, fun z hz => ?_, t11, by trivial⟩
      rcases List.mem_append.mp hz with hz | hz
      · exact hX z hz
      · exact haw z hz
  obtain ⟨hY, t6, rfl⟩ := hq
  refine Rs_for Y (fun z => .d z) (fun u e s' => BS rs s' ∧ e = [some (.r 1), some (.d (bdD a b)), some (.d (.int (n : Nat))), some (.d (rksD n rk)), some (.d (.int (k : Nat))), some (.d (.int (sd : Nat))), some (.r (rest.length + 2)), none, none, none, none, none, none, none, none, none, none]) ⟨_, _, _, rfl, rfl, rfl, t6, rfl⟩ (fun u z e s7 hu hq => ?_) (fun e s7 hq => ?_)
  · obtain ⟨t7, rfl⟩ := hq
    have hz := hY z (List.mem_of_getElem? hu)
    rw [g_name, Rc_some, Rs_seq, Rs_if]
    simp only [Rs_nil, R_call, R_cons, R_nil, R_Var, R_C, R_bin, R_cmp, R_tcmp, R_tOr, R_tAnd, R_tNot, R_tVal, R_tTrue, R_ite, R_eAnd, R_eOr, R_eNot, R_neg, R_tup, R_isi, R_some, Rc_some, N.v_eq, N.v_ne, N.v_lt, N.v_le, N.v_gt, N.v_ge, N.v_add, N.v_sub, N.v_iadd, N.v_xor, N.v_int, N.tru_b, N.pd_d, N.data_nil, N.data_cons, N.len_t, N.v_tupT, N.g_name, N.isNone_n, N.isNone_t, N.isNone_i, N.v_isN, N.v_isNn, N.v_eqB, N.v_neB, List.set_cons_succ, List.set_cons_zero, List.getElem?_cons_succ, List.getElem?_cons_zero, Bool.not_true, Bool.not_false, Bool.false_eq_true, Bool.true_eq_false, eq_self, true_implies, false_implies, true_and, and_true, decide_true, decide_false, Int.zero_add, N.R_sl, N.R_it, R_oNone, R_oSome, wipeN, N.R_lst, N.R_mkF, N.R_mkT, N.R_meth, N.v_addT, Ri_rng1, Ri_rng2, Ri_seq, hare (wd_up (by decide) (by decide) hz)]
    refine R_same2 (wd_sok (by decide) hz) (sok_rks n40 rk) ?_
    refine R_same (n := 6) (by unfold sok; trivial) ?_
    simp only [Rs_nil, R_call, R_cons, R_nil, R_Var, R_C, R_bin, R_cmp, R_tcmp, R_tOr, R_tAnd, R_tNot, R_tVal, R_tTrue, R_ite, R_eAnd, R_eOr, R_eNot, R_neg, R_tup, R_isi, R_some, Rc_some, N.v_eq, N.v_ne, N.v_lt, N.v_le, N.v_gt, N.v_ge, N.v_add, N.v_sub, N.v_iadd, N.v_xor, N.v_int, N.tru_b, N.pd_d, N.data_nil, N.data_cons, N.len_t, N.v_tupT, N.g_name, N.isNone_n, N.isNone_t, N.isNone_i, N.v_isN, N.v_isNn, N.v_eqB, N.v_neB, List.set_cons_succ, List.set_cons_zero, List.getElem?_cons_succ, List.getElem?_cons_zero, Bool.not_true, Bool.not_false, Bool.false_eq_true, Bool.true_eq_false, eq_self, true_implies, false_implies, true_and, and_true, decide_true, decide_false, Int.zero_add, N.R_sl, N.R_it, R_oNone, R_oSome, wipeN, N.R_lst, N.R_mkF, N.R_mkT, N.R_meth, N.v_addT, Ri_rng1, Ri_rng2, Ri_seq]
    try rw [Rs_nil]
    rw [N.thn_nx, Rs_nil, aft_nx, trimE_len rfl]
    exact ⟨t7, by simp [wipeN]⟩
  obtain ⟨t7, rfl⟩ := hq
  rw [N.thn_nx, Rs_seq]
  refine Rs_for (List.range 4) (fun k => .d (.int (k : Nat))) (fun u e s' => BS rs s' ∧ e = [some (.r 1), some (.d (bdD a b)), some (.d (.int (n : Nat))), some (.d (rksD n rk)), some (.d (.int (k : Nat))), some (.d (.int (sd : Nat))), some (.r (rest.length + 2)), none, none, none, none, none, none, none, none, none, none]) ?_ (fun u z e s8 hu hq => ?_) (fun e s8 hq => ?_)
  · rw [Ri_rng1]
    simp only [Rs_nil, R_call, R_cons, R_nil, R_Var, R_C, R_bin, R_cmp, R_tcmp, R_tOr, R_tAnd, R_tNot, R_tVal, R_tTrue, R_ite, R_eAnd, R_eOr, R_eNot, R_neg, R_tup, R_isi, R_some, Rc_some, N.v_eq, N.v_ne, N.v_lt, N.v_le, N.v_gt, N.v_ge, N.v_add, N.v_sub, N.v_iadd, N.v_xor, N.v_int, N.tru_b, N.pd_d, N.data_nil, N.data_cons, N.len_t, N.v_tupT, N.g_name, N.isNone_n, N.isNone_t, N.isNone_i, N.v_isN, N.v_isNn, N.v_eqB, N.v_neB, List.set_cons_succ, List.set_cons_zero, List.getElem?_cons_succ, List.getElem?_cons_zero, Bool.not_true, Bool.not_false, Bool.false_eq_true, Bool.true_eq_false, eq_self, true_implies, false_implies, true_and, and_true, decide_true, decide_false, Int.zero_add, N.R_sl, N.R_it, R_oNone, R_oSome, wipeN, N.R_lst, N.R_mkF, N.R_mkT, N.R_meth, N.v_addT, Ri_rng1, Ri_rng2, Ri_seq]
    exact ⟨by decide, rng0N (by decide), t7⟩
  · obtain ⟨t8, rfl⟩ := hq
    rw [g_name, Rc_some, Rs_seq, Rs_par]
    simp only [Rs_nil, R_call, R_cons, R_nil, R_Var, R_C, R_bin, R_cmp, R_tcmp, R_tOr, R_tAnd, R_tNot, R_tVal, R_tTrue, R_ite, R_eAnd, R_eOr, R_eNot, R_neg, R_tup, R_isi, R_some, Rc_some, N.v_eq, N.v_ne, N.v_lt, N.v_le, N.v_gt, N.v_ge, N.v_add, N.v_sub, N.v_iadd, N.v_xor, N.v_int, N.tru_b, N.pd_d, N.data_nil, N.data_cons, N.len_t, N.v_tupT, N.g_name, N.isNone_n, N.isNone_t, N.isNone_i, N.v_isN, N.v_isNn, N.v_eqB, N.v_neB, List.set_cons_succ, List.set_cons_zero, List.getElem?_cons_succ, List.getElem?_cons_zero, Bool.not_true, Bool.not_false, Bool.false_eq_true, Bool.true_eq_false, eq_self, true_implies, false_implies, true_and, and_true, decide_true, decide_false, Int.zero_add, N.R_sl, N.R_it, R_oNone, R_oSome, wipeN, N.R_lst, N.R_mkF, N.R_mkT, N.R_meth, N.v_addT, Ri_rng1, Ri_rng2, Ri_seq]
    refine R_draw t8 (m := n) (by omega) (Nat.lt_of_le_of_lt n40 (by decide)) fun pl s9 hpl t9 => ?_
    refine ⟨by simp [lim], ?_⟩
    refine R_draw t9 (m := 2) (by decide) (by decide) fun wd0 s10 hwd t10 => ?_
    rw [show itF s10 (.d (.list [.str (Str.ofString "left"), .str (Str.ofString "right")])) (.d (.int (wd0 : Nat))) = some (.d (.str (whoS (sdW wd0)))) from by
      have : wd0 = 0 ∨ wd0 = 1 := by omega
      rcases this with rfl | rfl <;> exact itF_tl rfl, Rc_some]
    generalize sdW wd0 = w
    refine R_draw t10 (m := 30) (by decide) (by decide) fun lm s11 hlm t11 => ?_
    refine ⟨by simp, ?_⟩
    simp only [List.zip_cons_cons, List.zip_nil_right, List.foldl_cons, List.foldl_nil, List.set_cons_succ, List.set_cons_zero]
    rw [N.thn_nx, Rs_seq, Rs_if]
    simp only [Rs_nil, R_call, R_cons, R_nil, R_Var, R_C, R_bin, R_cmp, R_tcmp, R_tOr, R_tAnd, R_tNot, R_tVal, R_tTrue, R_ite, R_eAnd, R_eOr, R_eNot, R_neg, R_tup, R_isi, R_some, Rc_some, N.v_eq, N.v_ne, N.v_lt, N.v_le, N.v_gt, N.v_ge, N.v_add, N.v_sub, N.v_iadd, N.v_xor, N.v_int, N.tru_b, N.pd_d, N.data_nil, N.data_cons, N.len_t, N.v_tupT, N.g_name, N.isNone_n, N.isNone_t, N.isNone_i, N.v_isN, N.v_isNn, N.v_eqB, N.v_neB, List.set_cons_succ, List.set_cons_zero, List.getElem?_cons_succ, List.getElem?_cons_zero, Bool.not_true, Bool.not_false, Bool.false_eq_true, Bool.true_eq_false, eq_self, true_implies, false_implies, true_and, and_true, decide_true, decide_false, Int.zero_add, N.R_sl, N.R_it, R_oNone, R_oSome, wipeN, N.R_lst, N.R_mkF, N.R_mkT, N.R_meth, N.v_addT, Ri_rng1, Ri_rng2, Ri_seq, hwin w hpl, lwin_ok rk w hpl]
    refine R_same (n := 6) (by unfold sok; trivial) ?_
    simp only [Rs_nil, R_call, R_cons, R_nil, R_Var, R_C, R_bin, R_cmp, R_tcmp, R_tOr, R_tAnd, R_tNot, R_tVal, R_tTrue, R_ite, R_eAnd, R_eOr, R_eNot, R_neg, R_tup, R_isi, R_some, Rc_some, N.v_eq, N.v_ne, N.v_lt, N.v_le, N.v_gt, N.v_ge, N.v_add, N.v_sub, N.v_iadd, N.v_xor, N.v_int, N.tru_b, N.pd_d, N.data_nil, N.data_cons, N.len_t, N.v_tupT, N.g_name, N.isNone_n, N.isNone_t, N.isNone_i, N.v_isN, N.v_isNn, N.v_eqB, N.v_neB, List.set_cons_succ, List.set_cons_zero, List.getElem?_cons_succ, List.getElem?_cons_zero, Bool.not_true, Bool.not_false, Bool.false_eq_true, Bool.true_eq_false, eq_self, true_implies, false_implies, true_and, and_true, decide_true, decide_false, Int.zero_add, N.R_sl, N.R_it, R_oNone, R_oSome, wipeN, N.R_lst, N.R_mkF, N.R_mkT, N.R_meth, N.v_addT, Ri_rng1, Ri_rng2, Ri_seq, hbm w hpl, hlb w hpl]
    refine R_same (n := 6) (by cases bestB (mvB a b) rk w pl <;> (unfold sok; trivial)) ?_
    simp only [Rs_nil, R_call, R_cons, R_nil, R_Var, R_C, R_bin, R_cmp, R_tcmp, R_tOr, R_tAnd, R_tNot, R_tVal, R_tTrue, R_ite, R_eAnd, R_eOr, R_eNot, R_neg, R_tup, R_isi, R_some, Rc_some, N.v_eq, N.v_ne, N.v_lt, N.v_le, N.v_gt, N.v_ge, N.v_add, N.v_sub, N.v_iadd, N.v_xor, N.v_int, N.tru_b, N.pd_d, N.data_nil, N.data_cons, N.len_t, N.v_tupT, N.g_name, N.isNone_n, N.isNone_t, N.isNone_i, N.v_isN, N.v_isNn, N.v_eqB, N.v_neB, List.set_cons_succ, List.set_cons_zero, List.getElem?_cons_succ, List.getElem?_cons_zero, Bool.not_true, Bool.not_false, Bool.false_eq_true, Bool.true_eq_false, eq_self, true_implies, false_implies, true_and, and_true, decide_true, decide_false, Int.zero_add, N.R_sl, N.R_it, R_oNone, R_oSome, wipeN, N.R_lst, N.R_mkF, N.R_mkT, N.R_meth, N.v_addT, Ri_rng1, Ri_rng2, Ri_seq]
    try rw [Rs_nil]
    rw [N.thn_nx, Rs_seq, Rs_set]
    simp only [Rs_nil, R_call, R_cons, R_nil, R_Var, R_C, R_bin, R_cmp, R_tcmp, R_tOr, R_tAnd, R_tNot, R_tVal, R_tTrue, R_ite, R_eAnd, R_eOr, R_eNot, R_neg, R_tup, R_isi, R_some, Rc_some, N.v_eq, N.v_ne, N.v_lt, N.v_le, N.v_gt, N.v_ge, N.v_add, N.v_sub, N.v_iadd, N.v_xor, N.v_int, N.tru_b, N.pd_d, N.data_nil, N.data_cons, N.len_t, N.v_tupT, N.g_name, N.isNone_n, N.isNone_t, N.isNone_i, N.v_isN, N.v_isNn, N.v_eqB, N.v_neB, List.set_cons_succ, List.set_cons_zero, List.getElem?_cons_succ, List.getElem?_cons_zero, Bool.not_true, Bool.not_false, Bool.false_eq_true, Bool.true_eq_false, eq_self, true_implies, false_implies, true_and, and_true, decide_true, decide_false, Int.zero_add, N.R_sl, N.R_it, R_oNone, R_oSome, wipeN, N.R_lst, N.R_mkF, N.R_mkT, N.R_meth, N.v_addT, Ri_rng1, Ri_rng2, Ri_seq, hll w hpl (show lm ≤ 100 by omega)]
    have hL := hlen lm w pl hpl
    have lL : (lineB (bestB (mvB a b) rk) lm w pl).length ≤ 31 := by
      rw [hL]
      cases rk w pl <;> simp <;> omega
    rw [N.thn_nx, Rs_seq, Rs_if]
    simp only [Rs_nil, R_call, R_cons, R_nil, R_Var, R_C, R_bin, R_cmp, R_tcmp, R_tOr, R_tAnd, R_tNot, R_tVal, R_tTrue, R_ite, R_eAnd, R_eOr, R_eNot, R_neg, R_tup, R_isi, R_some, Rc_some, N.v_eq, N.v_ne, N.v_lt, N.v_le, N.v_gt, N.v_ge, N.v_add, N.v_sub, N.v_iadd, N.v_xor, N.v_int, N.tru_b, N.pd_d, N.data_nil, N.data_cons, N.len_t, N.v_tupT, N.g_name, N.isNone_n, N.isNone_t, N.isNone_i, N.v_isN, N.v_isNn, N.v_eqB, N.v_neB, List.set_cons_succ, List.set_cons_zero, List.getElem?_cons_succ, List.getElem?_cons_zero, Bool.not_true, Bool.not_false, Bool.false_eq_true, Bool.true_eq_false, eq_self, true_implies, false_implies, true_and, and_true, decide_true, decide_false, Int.zero_add, N.R_sl, N.R_it, R_oNone, R_oSome, wipeN, N.R_lst, N.R_mkF, N.R_mkT, N.R_meth, N.v_addT, Ri_rng1, Ri_rng2, Ri_seq, hln w hpl (show lm ≤ 100 by omega)]
    refine R_same (n := 6) (wd_sok (B := 100) (by decide) (k := 6) ⟨by rw [nt_len]; omega, fun z hz => by
      obtain ⟨p, _, rfl⟩ := List.mem_map.mp hz
      trivial⟩) ?_
    simp only [Rs_nil, R_call, R_cons, R_nil, R_Var, R_C, R_bin, R_cmp, R_tcmp, R_tOr, R_tAnd, R_tNot, R_tVal, R_tTrue, R_ite, R_eAnd, R_eOr, R_eNot, R_neg, R_tup, R_isi, R_some, Rc_some, N.v_eq, N.v_ne, N.v_lt, N.v_le, N.v_gt, N.v_ge, N.v_add, N.v_sub, N.v_iadd, N.v_xor, N.v_int, N.tru_b, N.pd_d, N.data_nil, N.data_cons, N.len_t, N.v_tupT, N.g_name, N.isNone_n, N.isNone_t, N.isNone_i, N.v_isN, N.v_isNn, N.v_eqB, N.v_neB, List.set_cons_succ, List.set_cons_zero, List.getElem?_cons_succ, List.getElem?_cons_zero, Bool.not_true, Bool.not_false, Bool.false_eq_true, Bool.true_eq_false, eq_self, true_implies, false_implies, true_and, and_true, decide_true, decide_false, Int.zero_add, N.R_sl, N.R_it, R_oNone, R_oSome, wipeN, N.R_lst, N.R_mkF, N.R_mkT, N.R_meth, N.v_addT, Ri_rng1, Ri_rng2, Ri_seq]
    try rw [Rs_nil]
    generalize lineB (bestB (mvB a b) rk) lm w pl = L at hL lL
    rw [N.thn_nx, Rs_seq, Rs_set]
    refine it_rk rk w hpl (j := 3) (k := 13) (l := 12) rfl rfl rfl ?_
    simp only [List.set_cons_succ, List.set_cons_zero]
    have bl : ∀ s, bLen s [.d (tup L)] = some (.d (.int (L.length : Nat)), s) := fun s => by
      have := N.len_t (s := s) (xs := nt L)
      rwa [nt_len] at this
    rw [N.thn_nx, Rs_seq, Rs_if]
    cases erk : rk w pl with
    | none =>
      rw [erk] at hL
      have hL : L.length = lm + 1 := hL
      simp only [Rs_nil, R_call, R_cons, R_nil, R_Var, R_C, R_bin, R_cmp, R_tcmp, R_tOr, R_tAnd, R_tNot, R_tVal, R_tTrue, R_ite, R_eAnd, R_eOr, R_eNot, R_neg, R_tup, R_isi, R_some, Rc_some, N.v_eq, N.v_ne, N.v_lt, N.v_le, N.v_gt, N.v_ge, N.v_add, N.v_sub, N.v_iadd, N.v_xor, N.v_int, N.tru_b, N.pd_d, N.data_nil, N.data_cons, N.len_t, N.v_tupT, N.g_name, N.isNone_n, N.isNone_t, N.isNone_i, N.v_isN, N.v_isNn, N.v_eqB, N.v_neB, List.set_cons_succ, List.set_cons_zero, List.getElem?_cons_succ, List.getElem?_cons_zero, Bool.not_true, Bool.not_false, Bool.false_eq_true, Bool.true_eq_false, eq_self, true_implies, false_implies, true_and, and_true, decide_true, decide_false, Int.zero_add, N.R_sl, N.R_it, R_oNone, R_oSome, wipeN, N.R_lst, N.R_mkF, N.R_mkT, N.R_meth, N.v_addT, Ri_rng1, Ri_rng2, Ri_seq, encR, bl, show ((L.length : Nat) : Int) = (lm : Nat) + 1 by omega]
      try rw [Rs_nil]
      rw [N.thn_nx, Rs_nil, aft_nx, trimE_len (by rw [t11.len, t8.len])]
      exact ⟨t11, by simp [wipeN]⟩
    | some r =>
      rw [erk] at hL
      have hL : L.length = min r lm + 1 := hL
      simp only [Rs_nil, R_call, R_cons, R_nil, R_Var, R_C, R_bin, R_cmp, R_tcmp, R_tOr, R_tAnd, R_tNot, R_tVal, R_tTrue, R_ite, R_eAnd, R_eOr, R_eNot, R_neg, R_tup, R_isi, R_some, Rc_some, N.v_eq, N.v_ne, N.v_lt, N.v_le, N.v_gt, N.v_ge, N.v_add, N.v_sub, N.v_iadd, N.v_xor, N.v_int, N.tru_b, N.pd_d, N.data_nil, N.data_cons, N.len_t, N.v_tupT, N.g_name, N.isNone_n, N.isNone_t, N.isNone_i, N.v_isN, N.v_isNn, N.v_eqB, N.v_neB, List.set_cons_succ, List.set_cons_zero, List.getElem?_cons_succ, List.getElem?_cons_zero, Bool.not_true, Bool.not_false, Bool.false_eq_true, Bool.true_eq_false, eq_self, true_implies, false_implies, true_and, and_true, decide_true, decide_false, Int.zero_add, N.R_sl, N.R_it, R_oNone, R_oSome, wipeN, N.R_lst, N.R_mkF, N.R_mkT, N.R_meth, N.v_addT, Ri_rng1, Ri_rng2, Ri_seq, encR, bl, v_min2, mn2_nat, show ((L.length : Nat) : Int) = ((min r lm : Nat) : Int) + 1 by omega]
      try rw [Rs_nil]
      rw [N.thn_nx, Rs_nil, aft_nx, trimE_len (by rw [t11.len, t8.len])]
      exact ⟨t11, by simp [wipeN]⟩
  · obtain ⟨t8, rfl⟩ := hq
    rw [N.thn_nx, Rs_seq, Rs_ret]
    simp only [Rs_nil, R_call, R_cons, R_nil, R_Var, R_C, R_bin, R_cmp, R_tcmp, R_tOr, R_tAnd, R_tNot, R_tVal, R_tTrue, R_ite, R_eAnd, R_eOr, R_eNot, R_neg, R_tup, R_isi, R_some, Rc_some, N.v_eq, N.v_ne, N.v_lt, N.v_le, N.v_gt, N.v_ge, N.v_add, N.v_sub, N.v_iadd, N.v_xor, N.v_int, N.tru_b, N.pd_d, N.data_nil, N.data_cons, N.len_t, N.v_tupT, N.g_name, N.isNone_n, N.isNone_t, N.isNone_i, N.v_isN, N.v_isNn, N.v_eqB, N.v_neB, List.set_cons_succ, List.set_cons_zero, List.getElem?_cons_succ, List.getElem?_cons_zero, Bool.not_true, Bool.not_false, Bool.false_eq_true, Bool.true_eq_false, eq_self, true_implies, false_implies, true_and, and_true, decide_true, decide_false, Int.zero_add, N.R_sl, N.R_it, R_oNone, R_oSome, wipeN, N.R_lst, N.R_mkF, N.R_mkT, N.R_meth, N.v_addT, Ri_rng1, Ri_rng2, Ri_seq]
    rw [N.thn_rt]
    exact hfin t8
end
end T54

namespace T54
open PySem L2 PyProof.Rows N

def rowF (n : Nat) : List (List Nat) := (List.range n).map fun k => if k + 1 < n then [k + 1] else []
def rowB (n : Nat) : List (List Nat) := (List.range n).map fun k => if 0 < k ∧ k < n - 1 then [k - 1, k + 1] else if k + 1 < n then [k + 1] else []
theorem rowF_ok {n : Nat} : ∀ r ∈ rowF n, r.length ≤ 40 ∧ ∀ j ∈ r, j < n := fun r hr => by
  obtain ⟨k, hk, rfl⟩ := List.mem_map.mp hr
  have hk := List.mem_range.mp hk
  split
  · refine ⟨by simp, fun j hj => ?_⟩
    rw [List.mem_singleton.mp hj]
    omega
  · exact ⟨by simp, fun j hj => by cases hj⟩
theorem rowB_ok {n : Nat} : ∀ r ∈ rowB n, r.length ≤ 40 ∧ ∀ j ∈ r, j < n := fun r hr => by
  obtain ⟨k, hk, rfl⟩ := List.mem_map.mp hr
  have hk := List.mem_range.mp hk
  split
  · refine ⟨by simp, fun j hj => ?_⟩
    simp only [List.mem_cons, List.not_mem_nil, or_false] at hj
    omega
  · split
    · refine ⟨by simp, fun j hj => ?_⟩
      rw [List.mem_singleton.mp hj]
      omega
    · exact ⟨by simp, fun j hj => by cases hj⟩
theorem bd_of {n : Nat} {a b : List (List Nat)} (n1 : 1 ≤ n) (n40 : n ≤ 40) (la : a.length = n) (lb : b.length = n) (ha : ∀ r ∈ a, r.length ≤ 40 ∧ ∀ j ∈ r, j < n) (hb : ∀ r ∈ b, r.length ≤ 40 ∧ ∀ j ∈ r, j < n) : Bd n a b :=
  ⟨n1, n40, la, lb, fun r hr => hr.elim (fun h => (ha r h).2) fun h => (hb r h).2, fun r hr => hr.elim (fun h => (ha r h).1) fun h => (hb r h).1⟩
def rgA : List (List Nat) := [[1], [0], []]
def rgB : List (List Nat) := [[1], [0, 2], []]
theorem rg_bd : Bd 3 rgA rgB := bd_of (by decide) (by decide) rfl rfl (by decide) (by decide)
theorem rg_0 : rkB 3 (mvB rgA rgB) true 0 = some 2 := by decide +kernel
theorem rg_1 : rkB 3 (mvB rgA rgB) true 1 = none := by decide +kernel
theorem rg_2 : rkB 3 (mvB rgA rgB) true 2 = some 0 := by decide +kernel
theorem rg_3 : rkB 3 (mvB rgA rgB) false 0 = none := by decide +kernel
theorem rg_4 : rkB 3 (mvB rgA rgB) false 1 = some 1 := by decide +kernel
theorem rg_5 : rkB 3 (mvB rgA rgB) false 2 = some 0 := by decide +kernel
theorem rg_rks : rksD 3 (rkB 3 (mvB rgA rgB)) = .tuple [.tuple [.int 2, .none, .int 0], .tuple [.none, .int 1, .int 0]] := by
  unfold rksD rowR
  rw [show List.range 3 = [0, 1, 2] from rfl]
  simp only [List.map_cons, List.map_nil, rg_0, rg_1, rg_2, rg_3, rg_4, rg_5]
  rfl
theorem rg_D : PyData.tuple [.tuple [.tuple [.int 1], .tuple [.int 0], .tuple []], .tuple [.tuple [.int 1], .tuple [.int 0, .int 2], .tuple []]] = bdD rgA rgB := rfl
theorem run {ns : List Int} (hl : ns.length ≤ 63) : ∃ s', m_law [] [.d (.list (ns.map .int))] = some (.d (.bool true), s') := by
  suffices h : R (m_law [] [.d (.list (ns.map .int))]) fun d _ => d = .d (.bool true) by
    obtain ⟨_, s', h, rfl⟩ := h
    exact ⟨s', h⟩
  unfold m_law b_law
  rw [R_fn]
  refine ⟨rfl, ?_⟩
  simp only [Rs_seq, Rs_set, R_call, R_cons, R_nil, R_Var]
  simp only [List.map_cons, List.map_nil, List.cons_append, List.nil_append, List.getElem?_cons_zero]
  refine R_box fun s0 t0 => ?_
  simp only [N.thn_nx, Rs_seq]
  simp only [List.length_cons, List.length_nil, Nat.reduceSub, Nat.reduceAdd, List.replicate_succ, List.replicate_zero, List.cons_append, List.nil_append, List.set_cons_succ, List.set_cons_zero]
  refine Rs_for (List.range 3) (fun k => .d (.int (k : Nat))) (fun k e s' => BS [] s' ∧ e = [some (.d (.list (ns.map .int))), some (.r 1), none, none, none, none, none, none]) ?_ (fun k x e s' hk hq => ?_) (fun e s' hq => ?_)
  · rw [Ri_rng1]
    simp only [Rs_nil, R_call, R_cons, R_nil, R_Var, R_C, R_bin, R_cmp, R_tcmp, R_tOr, R_tAnd, R_tNot, R_tVal, R_tTrue, R_ite, R_eAnd, R_eOr, R_eNot, R_neg, R_tup, R_isi, R_some, Rc_some, N.v_eq, N.v_ne, N.v_lt, N.v_le, N.v_gt, N.v_ge, N.v_add, N.v_sub, N.v_iadd, N.v_xor, N.v_int, N.tru_b, N.pd_d, N.data_nil, N.data_cons, N.len_t, N.v_tupT, N.g_name, N.isNone_n, N.isNone_t, N.isNone_i, N.v_isN, N.v_isNn, N.v_eqB, N.v_neB, List.set_cons_succ, List.set_cons_zero, List.getElem?_cons_succ, List.getElem?_cons_zero, Bool.not_true, Bool.not_false, Bool.false_eq_true, Bool.true_eq_false, eq_self, true_implies, false_implies, true_and, and_true, decide_true, decide_false, Int.zero_add, N.R_sl, N.R_it, R_oNone, R_oSome, wipeN, N.R_lst, N.R_mkF, N.R_mkT, N.R_meth, N.v_addT, Ri_rng1, Ri_rng2, Ri_seq]
    exact ⟨by decide, rng0N (by decide), t0⟩
  · obtain ⟨t1, rfl⟩ := hq
    have hk3 : k < 3 ∧ k = x := by
      obtain ⟨h1, h2⟩ := List.getElem?_eq_some_iff.mp hk
      simp at h1 h2
      exact ⟨h1, h2⟩
    obtain ⟨hk3, rfl⟩ := hk3
    rw [g_name, Rc_some, Rs_seq, Rs_if]
    simp only [Rs_nil, R_call, R_cons, R_nil, R_Var, R_C, R_bin, R_cmp, R_tcmp, R_tOr, R_tAnd, R_tNot, R_tVal, R_tTrue, R_ite, R_eAnd, R_eOr, R_eNot, R_neg, R_tup, R_isi, R_some, Rc_some, N.v_eq, N.v_ne, N.v_lt, N.v_le, N.v_gt, N.v_ge, N.v_add, N.v_sub, N.v_iadd, N.v_xor, N.v_int, N.tru_b, N.pd_d, N.data_nil, N.data_cons, N.len_t, N.v_tupT, N.g_name, N.isNone_n, N.isNone_t, N.isNone_i, N.v_isN, N.v_isNn, N.v_eqB, N.v_neB, List.set_cons_succ, List.set_cons_zero, List.getElem?_cons_succ, List.getElem?_cons_zero, Bool.not_true, Bool.not_false, Bool.false_eq_true, Bool.true_eq_false, eq_self, true_implies, false_implies, true_and, and_true, decide_true, decide_false, Int.zero_add, N.R_sl, N.R_it, R_oNone, R_oSome, wipeN, N.R_lst, N.R_mkF, N.R_mkT, N.R_meth, N.v_addT, Ri_rng1, Ri_rng2, Ri_seq]
    refine ⟨by simp [lim], ?_⟩
    obtain ⟨m, hm1, hm2, hm⟩ : ∃ m : Nat, 1 ≤ m ∧ m ≤ 40 ∧ itF s' (.d (.list [.int 3, .int 6, .int 7])) (.d (.int (k : Nat))) = some (.d (.int (m : Nat))) := by
      have : k = 0 ∨ k = 1 ∨ k = 2 := by omega
      rcases this with rfl | rfl | rfl
      · exact ⟨3, by decide, by decide, itF_tl rfl⟩
      · exact ⟨6, by decide, by decide, itF_tl rfl⟩
      · exact ⟨7, by decide, by decide, itF_tl rfl⟩
    rw [hm, Rc_some]
    refine board_ok t1 flat_nil hm1 hm2 fun n a b s2 _ hb t2 => ?_
    refine fine_ok t2 flat_nil hb fun s3 t3 => ?_
    simp only [Rs_nil, R_call, R_cons, R_nil, R_Var, R_C, R_bin, R_cmp, R_tcmp, R_tOr, R_tAnd, R_tNot, R_tVal, R_tTrue, R_ite, R_eAnd, R_eOr, R_eNot, R_neg, R_tup, R_isi, R_some, Rc_some, N.v_eq, N.v_ne, N.v_lt, N.v_le, N.v_gt, N.v_ge, N.v_add, N.v_sub, N.v_iadd, N.v_xor, N.v_int, N.tru_b, N.pd_d, N.data_nil, N.data_cons, N.len_t, N.v_tupT, N.g_name, N.isNone_n, N.isNone_t, N.isNone_i, N.v_isN, N.v_isNn, N.v_eqB, N.v_neB, List.set_cons_succ, List.set_cons_zero, List.getElem?_cons_succ, List.getElem?_cons_zero, Bool.not_true, Bool.not_false, Bool.false_eq_true, Bool.true_eq_false, eq_self, true_implies, false_implies, true_and, and_true, decide_true, decide_false, Int.zero_add, N.R_sl, N.R_it, R_oNone, R_oSome, wipeN, N.R_lst, N.R_mkF, N.R_mkT, N.R_meth, N.v_addT, Ri_rng1, Ri_rng2, Ri_seq]
    try rw [Rs_nil]
    rw [N.thn_nx, Rs_nil, aft_nx, trimE_len (by rw [t3.len, t1.len])]
    exact ⟨t3, by simp [wipeN]⟩
  · obtain ⟨t1, rfl⟩ := hq
    rw [N.thn_nx, Rs_seq, Rs_set]
    simp only [Rs_nil, R_call, R_cons, R_nil, R_Var, R_C, R_bin, R_cmp, R_tcmp, R_tOr, R_tAnd, R_tNot, R_tVal, R_tTrue, R_ite, R_eAnd, R_eOr, R_eNot, R_neg, R_tup, R_isi, R_some, Rc_some, N.v_eq, N.v_ne, N.v_lt, N.v_le, N.v_gt, N.v_ge, N.v_add, N.v_sub, N.v_iadd, N.v_xor, N.v_int, N.tru_b, N.pd_d, N.data_nil, N.data_cons, N.len_t, N.v_tupT, N.g_name, N.isNone_n, N.isNone_t, N.isNone_i, N.v_isN, N.v_isNn, N.v_eqB, N.v_neB, List.set_cons_succ, List.set_cons_zero, List.getElem?_cons_succ, List.getElem?_cons_zero, Bool.not_true, Bool.not_false, Bool.false_eq_true, Bool.true_eq_false, eq_self, true_implies, false_implies, true_and, and_true, decide_true, decide_false, Int.zero_add, N.R_sl, N.R_it, R_oNone, R_oSome, wipeN, N.R_lst, N.R_mkF, N.R_mkT, N.R_meth, N.v_addT, Ri_rng1, Ri_rng2, Ri_seq]
    refine R_draw t1 (m := 39) (by decide) (by decide) fun d s2 hd t2 => ?_
    simp only [Rs_nil, R_call, R_cons, R_nil, R_Var, R_C, R_bin, R_cmp, R_tcmp, R_tOr, R_tAnd, R_tNot, R_tVal, R_tTrue, R_ite, R_eAnd, R_eOr, R_eNot, R_neg, R_tup, R_isi, R_some, Rc_some, N.v_eq, N.v_ne, N.v_lt, N.v_le, N.v_gt, N.v_ge, N.v_add, N.v_sub, N.v_iadd, N.v_xor, N.v_int, N.tru_b, N.pd_d, N.data_nil, N.data_cons, N.len_t, N.v_tupT, N.g_name, N.isNone_n, N.isNone_t, N.isNone_i, N.v_isN, N.v_isNn, N.v_eqB, N.v_neB, List.set_cons_succ, List.set_cons_zero, List.getElem?_cons_succ, List.getElem?_cons_zero, Bool.not_true, Bool.not_false, Bool.false_eq_true, Bool.true_eq_false, eq_self, true_implies, false_implies, true_and, and_true, decide_true, decide_false, Int.zero_add, N.R_sl, N.R_it, R_oNone, R_oSome, wipeN, N.R_lst, N.R_mkF, N.R_mkT, N.R_meth, N.v_addT, Ri_rng1, Ri_rng2, Ri_seq]
    rw [show (2 : Int) + ((d : Nat) : Int) = ((2 + d : Nat) : Int) by omega]
    have n1 : 2 ≤ 2 + d := by omega
    have n40 : 2 + d ≤ 40 := by omega
    generalize 2 + d = n at n1 n40
    rw [N.thn_nx, Rs_seq, Rs_set]
    simp only [R_call, R_cons, R_nil]
    refine R_lcm (List.range n) (fun k => .d (.int (k : Nat))) (fun k => tup (if k + 1 < n then [k + 1] else [])) ?_ (fun k hk acc => ?_) (by simp only [lim, List.length_range]; omega) ?_
    · rw [Ri_rng1]
      simp only [Rs_nil, R_call, R_cons, R_nil, R_Var, R_C, R_bin, R_cmp, R_tcmp, R_tOr, R_tAnd, R_tNot, R_tVal, R_tTrue, R_ite, R_eAnd, R_eOr, R_eNot, R_neg, R_tup, R_isi, R_some, Rc_some, N.v_eq, N.v_ne, N.v_lt, N.v_le, N.v_gt, N.v_ge, N.v_add, N.v_sub, N.v_iadd, N.v_xor, N.v_int, N.tru_b, N.pd_d, N.data_nil, N.data_cons, N.len_t, N.v_tupT, N.g_name, N.isNone_n, N.isNone_t, N.isNone_i, N.v_isN, N.v_isNn, N.v_eqB, N.v_neB, List.set_cons_succ, List.set_cons_zero, List.getElem?_cons_succ, List.getElem?_cons_zero, Bool.not_true, Bool.not_false, Bool.false_eq_true, Bool.true_eq_false, eq_self, true_implies, false_implies, true_and, and_true, decide_true, decide_false, Int.zero_add, N.R_sl, N.R_it, R_oNone, R_oSome, wipeN, N.R_lst, N.R_mkF, N.R_mkT, N.R_meth, N.v_addT, Ri_rng1, Ri_rng2, Ri_seq]
      exact ⟨⟨by omega, by omega⟩, rng0N rfl⟩
    · rw [g_name, Rc_some]
      simp only [Rs_nil, R_call, R_cons, R_nil, R_Var, R_C, R_bin, R_cmp, R_tcmp, R_tOr, R_tAnd, R_tNot, R_tVal, R_tTrue, R_ite, R_eAnd, R_eOr, R_eNot, R_neg, R_tup, R_isi, R_some, Rc_some, N.v_eq, N.v_ne, N.v_lt, N.v_le, N.v_gt, N.v_ge, N.v_add, N.v_sub, N.v_iadd, N.v_xor, N.v_int, N.tru_b, N.pd_d, N.data_nil, N.data_cons, N.len_t, N.v_tupT, N.g_name, N.isNone_n, N.isNone_t, N.isNone_i, N.v_isN, N.v_isNn, N.v_eqB, N.v_neB, List.set_cons_succ, List.set_cons_zero, List.getElem?_cons_succ, List.getElem?_cons_zero, Bool.not_true, Bool.not_false, Bool.false_eq_true, Bool.true_eq_false, eq_self, true_implies, false_implies, true_and, and_true, decide_true, decide_false, Int.zero_add, N.R_sl, N.R_it, R_oNone, R_oSome, wipeN, N.R_lst, N.R_mkF, N.R_mkT, N.R_meth, N.v_addT, Ri_rng1, Ri_rng2, Ri_seq]
      refine ⟨fun h => ?_, fun h => ?_⟩
      · have h : k + 1 < n := by have := of_decide_eq_true h; omega
        rw [if_pos h]
        first | exact ⟨by simp [lim], rfl, rfl⟩ | exact ⟨by simp [lim], rfl⟩
      · have h : ¬ k + 1 < n := by have := of_decide_eq_false h; omega
        rw [if_neg h]
        first | exact ⟨by simp [lim], rfl, rfl⟩ | exact ⟨by simp [lim], rfl⟩
    rw [v_tupL, R_some, N.thn_nx, Rs_seq, Rs_set]
    rw [show PyData.tuple ((List.range n).map fun k => tup (if k + 1 < n then [k + 1] else [])) = sideD (rowF n) by unfold sideD rowF; rw [List.map_map]; rfl]
    simp only [R_call, R_cons, R_nil]
    refine R_lcm (List.range n) (fun k => .d (.int (k : Nat))) (fun k => tup (if 0 < k ∧ k < n - 1 then [k - 1, k + 1] else if k + 1 < n then [k + 1] else [])) ?_ (fun k hk acc => ?_) (by simp only [lim, List.length_range]; omega) ?_
    · rw [Ri_rng1]
      simp only [Rs_nil, R_call, R_cons, R_nil, R_Var, R_C, R_bin, R_cmp, R_tcmp, R_tOr, R_tAnd, R_tNot, R_tVal, R_tTrue, R_ite, R_eAnd, R_eOr, R_eNot, R_neg, R_tup, R_isi, R_some, Rc_some, N.v_eq, N.v_ne, N.v_lt, N.v_le, N.v_gt, N.v_ge, N.v_add, N.v_sub, N.v_iadd, N.v_xor, N.v_int, N.tru_b, N.pd_d, N.data_nil, N.data_cons, N.len_t, N.v_tupT, N.g_name, N.isNone_n, N.isNone_t, N.isNone_i, N.v_isN, N.v_isNn, N.v_eqB, N.v_neB, List.set_cons_succ, List.set_cons_zero, List.getElem?_cons_succ, List.getElem?_cons_zero, Bool.not_true, Bool.not_false, Bool.false_eq_true, Bool.true_eq_false, eq_self, true_implies, false_implies, true_and, and_true, decide_true, decide_false, Int.zero_add, N.R_sl, N.R_it, R_oNone, R_oSome, wipeN, N.R_lst, N.R_mkF, N.R_mkT, N.R_meth, N.v_addT, Ri_rng1, Ri_rng2, Ri_seq]
      exact ⟨⟨by omega, by omega⟩, rng0N rfl⟩
    · rw [g_name, Rc_some]
      simp only [Rs_nil, R_call, R_cons, R_nil, R_Var, R_C, R_bin, R_cmp, R_tcmp, R_tOr, R_tAnd, R_tNot, R_tVal, R_tTrue, R_ite, R_eAnd, R_eOr, R_eNot, R_neg, R_tup, R_isi, R_some, Rc_some, N.v_eq, N.v_ne, N.v_lt, N.v_le, N.v_gt, N.v_ge, N.v_add, N.v_sub, N.v_iadd, N.v_xor, N.v_int, N.tru_b, N.pd_d, N.data_nil, N.data_cons, N.len_t, N.v_tupT, N.g_name, N.isNone_n, N.isNone_t, N.isNone_i, N.v_isN, N.v_isNn, N.v_eqB, N.v_neB, List.set_cons_succ, List.set_cons_zero, List.getElem?_cons_succ, List.getElem?_cons_zero, Bool.not_true, Bool.not_false, Bool.false_eq_true, Bool.true_eq_false, eq_self, true_implies, false_implies, true_and, and_true, decide_true, decide_false, Int.zero_add, N.R_sl, N.R_it, R_oNone, R_oSome, wipeN, N.R_lst, N.R_mkF, N.R_mkT, N.R_meth, N.v_addT, Ri_rng1, Ri_rng2, Ri_seq, R_chK]
      have two : ∀ {c : Prop} [Decidable c], c → 0 < k ∧ k < n - 1 → [PyData.int ((k : Nat) - 1 : Int), PyData.int ((k : Nat) + 1 : Int)].length ≤ lim ∧ D.d (.tuple [.int ((k : Nat) - 1 : Int), .int ((k : Nat) + 1 : Int)]) = D.d (tup (if 0 < k ∧ k < n - 1 then [k - 1, k + 1] else if k + 1 < n then [k + 1] else [])) := fun {c} _ _ h => by
        rw [if_pos h]
        refine ⟨by simp [lim], ?_⟩
        rw [show ((k : Nat) : Int) - 1 = ((k - 1 : Nat) : Int) by omega]
        rfl
      have one : ¬ (0 < k ∧ k < n - 1) → k + 1 < n → [PyData.int ((k : Nat) + 1 : Int)].length ≤ lim ∧ D.d (.tuple [.int ((k : Nat) + 1 : Int)]) = D.d (tup (if 0 < k ∧ k < n - 1 then [k - 1, k + 1] else if k + 1 < n then [k + 1] else [])) := fun h1 h2 => by
        rw [if_neg h1, if_pos h2]
        exact ⟨by simp [lim], rfl⟩
      have non : ¬ (0 < k ∧ k < n - 1) → ¬ k + 1 < n → ([] : List PyData).length ≤ lim ∧ D.d (.tuple []) = D.d (tup (if 0 < k ∧ k < n - 1 then [k - 1, k + 1] else if k + 1 < n then [k + 1] else [])) := fun h1 h2 => by
        rw [if_neg h1, if_neg h2]
        exact ⟨by simp [lim], rfl⟩
      refine ⟨fun h1 => ⟨fun h2 => ?_, fun h2 => ⟨fun h3 => ?_, fun h3 => ?_⟩⟩, fun h1 => ⟨fun h3 => ?_, fun h3 => ?_⟩⟩
      · have h1 := of_decide_eq_true h1
        have h2 := of_decide_eq_true h2
        exact two (c := True) trivial (by omega)
      · have h2 := of_decide_eq_false h2
        have h3 := of_decide_eq_true h3
        exact one (by omega) (by omega)
      · have h2 := of_decide_eq_false h2
        have h3 := of_decide_eq_false h3
        exact non (by omega) (by omega)
      · have h1 := of_decide_eq_false h1
        have h3 := of_decide_eq_true h3
        exact one (by omega) (by omega)
      · have h1 := of_decide_eq_false h1
        have h3 := of_decide_eq_false h3
        exact non (by omega) (by omega)
    rw [v_tupL, R_some]
    rw [show PyData.tuple ((List.range n).map fun k => tup (if 0 < k ∧ k < n - 1 then [k - 1, k + 1] else if k + 1 < n then [k + 1] else [])) = sideD (rowB n) by unfold sideD rowB; rw [List.map_map]; rfl]
    have lF : (rowF n).length = n := by simp [rowF]
    have lB : (rowB n).length = n := by simp [rowB]
    rw [N.thn_nx, Rs_seq, Rs_if]
    simp only [Rs_nil, R_call, R_cons, R_nil, R_Var, R_C, R_bin, R_cmp, R_tcmp, R_tOr, R_tAnd, R_tNot, R_tVal, R_tTrue, R_ite, R_eAnd, R_eOr, R_eNot, R_neg, R_tup, R_isi, R_some, Rc_some, N.v_eq, N.v_ne, N.v_lt, N.v_le, N.v_gt, N.v_ge, N.v_add, N.v_sub, N.v_iadd, N.v_xor, N.v_int, N.tru_b, N.pd_d, N.data_nil, N.data_cons, N.len_t, N.v_tupT, N.g_name, N.isNone_n, N.isNone_t, N.isNone_i, N.v_isN, N.v_isNn, N.v_eqB, N.v_neB, List.set_cons_succ, List.set_cons_zero, List.getElem?_cons_succ, List.getElem?_cons_zero, Bool.not_true, Bool.not_false, Bool.false_eq_true, Bool.true_eq_false, eq_self, true_implies, false_implies, true_and, and_true, decide_true, decide_false, Int.zero_add, N.R_sl, N.R_it, R_oNone, R_oSome, wipeN, N.R_lst, N.R_mkF, N.R_mkT, N.R_meth, N.v_addT, Ri_rng1, Ri_rng2, Ri_seq]
    refine ⟨by simp [lim], ?_⟩
    refine fine_ok (a := rowF n) (b := rowF n) t2 flat_nil (bd_of (by omega) n40 lF lF rowF_ok rowF_ok) fun s3 t3 => ?_
    simp only [Rs_nil, R_call, R_cons, R_nil, R_Var, R_C, R_bin, R_cmp, R_tcmp, R_tOr, R_tAnd, R_tNot, R_tVal, R_tTrue, R_ite, R_eAnd, R_eOr, R_eNot, R_neg, R_tup, R_isi, R_some, Rc_some, N.v_eq, N.v_ne, N.v_lt, N.v_le, N.v_gt, N.v_ge, N.v_add, N.v_sub, N.v_iadd, N.v_xor, N.v_int, N.tru_b, N.pd_d, N.data_nil, N.data_cons, N.len_t, N.v_tupT, N.g_name, N.isNone_n, N.isNone_t, N.isNone_i, N.v_isN, N.v_isNn, N.v_eqB, N.v_neB, List.set_cons_succ, List.set_cons_zero, List.getElem?_cons_succ, List.getElem?_cons_zero, Bool.not_true, Bool.not_false, Bool.false_eq_true, Bool.true_eq_false, eq_self, true_implies, false_implies, true_and, and_true, decide_true, decide_false, Int.zero_add, N.R_sl, N.R_it, R_oNone, R_oSome, wipeN, N.R_lst, N.R_mkF, N.R_mkT, N.R_meth, N.v_addT, Ri_rng1, Ri_rng2, Ri_seq]
    refine ⟨by simp [lim], ?_⟩
    refine fine_ok (a := rowF n) (b := rowB n) t3 flat_nil (bd_of (by omega) n40 lF lB rowF_ok rowB_ok) fun s4 t4 => ?_
    simp only [Rs_nil, R_call, R_cons, R_nil, R_Var, R_C, R_bin, R_cmp, R_tcmp, R_tOr, R_tAnd, R_tNot, R_tVal, R_tTrue, R_ite, R_eAnd, R_eOr, R_eNot, R_neg, R_tup, R_isi, R_some, Rc_some, N.v_eq, N.v_ne, N.v_lt, N.v_le, N.v_gt, N.v_ge, N.v_add, N.v_sub, N.v_iadd, N.v_xor, N.v_int, N.tru_b, N.pd_d, N.data_nil, N.data_cons, N.len_t, N.v_tupT, N.g_name, N.isNone_n, N.isNone_t, N.isNone_i, N.v_isN, N.v_isNn, N.v_eqB, N.v_neB, List.set_cons_succ, List.set_cons_zero, List.getElem?_cons_succ, List.getElem?_cons_zero, Bool.not_true, Bool.not_false, Bool.false_eq_true, Bool.true_eq_false, eq_self, true_implies, false_implies, true_and, and_true, decide_true, decide_false, Int.zero_add, N.R_sl, N.R_it, R_oNone, R_oSome, wipeN, N.R_lst, N.R_mkF, N.R_mkT, N.R_meth, N.v_addT, Ri_rng1, Ri_rng2, Ri_seq]
    try rw [Rs_nil]
    rw [N.thn_nx, Rs_seq, Rs_set]
    simp only [Rs_nil, R_call, R_cons, R_nil, R_Var, R_C, R_bin, R_cmp, R_tcmp, R_tOr, R_tAnd, R_tNot, R_tVal, R_tTrue, R_ite, R_eAnd, R_eOr, R_eNot, R_neg, R_tup, R_isi, R_some, Rc_some, N.v_eq, N.v_ne, N.v_lt, N.v_le, N.v_gt, N.v_ge, N.v_add, N.v_sub, N.v_iadd, N.v_xor, N.v_int, N.tru_b, N.pd_d, N.data_nil, N.data_cons, N.len_t, N.v_tupT, N.g_name, N.isNone_n, N.isNone_t, N.isNone_i, N.v_isN, N.v_isNn, N.v_eqB, N.v_neB, List.set_cons_succ, List.set_cons_zero, List.getElem?_cons_succ, List.getElem?_cons_zero, Bool.not_true, Bool.not_false, Bool.false_eq_true, Bool.true_eq_false, eq_self, true_implies, false_implies, true_and, and_true, decide_true, decide_false, Int.zero_add, N.R_sl, N.R_it, R_oNone, R_oSome, wipeN, N.R_lst, N.R_mkF, N.R_mkT, N.R_meth, N.v_addT, Ri_rng1, Ri_rng2, Ri_seq]
    refine ⟨by simp [lim], by simp [lim], by simp [lim], by simp [lim], by simp [lim], by simp [lim], by simp [lim], by simp [lim], by simp [lim], ?_⟩
    rw [rg_D, N.thn_nx, Rs_seq, Rs_ret]
    have hr := ranks_ok rg_bd
    rw [rg_rks] at hr
    have hw : ∀ s, m_winner s [.d (bdD rgA rgB), .d (.int 0), .d (.str (Str.ofString "left"))] = some (.d (.str (Str.ofString "right")), s) := fun s => by
      have := win_ok rg_bd true (i := 0) (by decide) s
      rw [rg_0] at this
      exact this
    simp only [Rs_nil, R_call, R_cons, R_nil, R_Var, R_C, R_bin, R_cmp, R_tcmp, R_tOr, R_tAnd, R_tNot, R_tVal, R_tTrue, R_ite, R_eAnd, R_eOr, R_eNot, R_neg, R_tup, R_isi, R_some, Rc_some, N.v_eq, N.v_ne, N.v_lt, N.v_le, N.v_gt, N.v_ge, N.v_add, N.v_sub, N.v_iadd, N.v_xor, N.v_int, N.tru_b, N.pd_d, N.data_nil, N.data_cons, N.len_t, N.v_tupT, N.g_name, N.isNone_n, N.isNone_t, N.isNone_i, N.v_isN, N.v_isNn, N.v_eqB, N.v_neB, List.set_cons_succ, List.set_cons_zero, List.getElem?_cons_succ, List.getElem?_cons_zero, Bool.not_true, Bool.not_false, Bool.false_eq_true, Bool.true_eq_false, eq_self, true_implies, false_implies, true_and, and_true, decide_true, decide_false, Int.zero_add, N.R_sl, N.R_it, R_oNone, R_oSome, wipeN, N.R_lst, N.R_mkF, N.R_mkT, N.R_meth, N.v_addT, Ri_rng1, Ri_rng2, Ri_seq, hr]
    refine ⟨by simp [lim], by simp [lim], by simp [lim], ?_⟩
    refine R_same (n := 6) (wd_sok (B := 100) (by decide) (k := 6) (by simp [wd])) ?_
    simp only [Rs_nil, R_call, R_cons, R_nil, R_Var, R_C, R_bin, R_cmp, R_tcmp, R_tOr, R_tAnd, R_tNot, R_tVal, R_tTrue, R_ite, R_eAnd, R_eOr, R_eNot, R_neg, R_tup, R_isi, R_some, Rc_some, N.v_eq, N.v_ne, N.v_lt, N.v_le, N.v_gt, N.v_ge, N.v_add, N.v_sub, N.v_iadd, N.v_xor, N.v_int, N.tru_b, N.pd_d, N.data_nil, N.data_cons, N.len_t, N.v_tupT, N.g_name, N.isNone_n, N.isNone_t, N.isNone_i, N.v_isN, N.v_isNn, N.v_eqB, N.v_neB, List.set_cons_succ, List.set_cons_zero, List.getElem?_cons_succ, List.getElem?_cons_zero, Bool.not_true, Bool.not_false, Bool.false_eq_true, Bool.true_eq_false, eq_self, true_implies, false_implies, true_and, and_true, decide_true, decide_false, Int.zero_add, N.R_sl, N.R_it, R_oNone, R_oSome, wipeN, N.R_lst, N.R_mkF, N.R_mkT, N.R_meth, N.v_addT, Ri_rng1, Ri_rng2, Ri_seq, hw]
    refine R_same (n := 6) (by unfold sok; trivial) ?_
    simp only [Rs_nil, R_call, R_cons, R_nil, R_Var, R_C, R_bin, R_cmp, R_tcmp, R_tOr, R_tAnd, R_tNot, R_tVal, R_tTrue, R_ite, R_eAnd, R_eOr, R_eNot, R_neg, R_tup, R_isi, R_some, Rc_some, N.v_eq, N.v_ne, N.v_lt, N.v_le, N.v_gt, N.v_ge, N.v_add, N.v_sub, N.v_iadd, N.v_xor, N.v_int, N.tru_b, N.pd_d, N.data_nil, N.data_cons, N.len_t, N.v_tupT, N.g_name, N.isNone_n, N.isNone_t, N.isNone_i, N.v_isN, N.v_isNn, N.v_eqB, N.v_neB, List.set_cons_succ, List.set_cons_zero, List.getElem?_cons_succ, List.getElem?_cons_zero, Bool.not_true, Bool.not_false, Bool.false_eq_true, Bool.true_eq_false, eq_self, true_implies, false_implies, true_and, and_true, decide_true, decide_false, Int.zero_add, N.R_sl, N.R_it, R_oNone, R_oSome, wipeN, N.R_lst, N.R_mkF, N.R_mkT, N.R_meth, N.v_addT, Ri_rng1, Ri_rng2, Ri_seq]
    refine fine_ok t4 flat_nil rg_bd fun s5 t5 => ?_
    rw [N.thn_rt]
    exact R_retd.mpr (by simp)
end T54

namespace T54
open PySem L2 PyProof.Rows N
open Z (Dfn)
section
variable {P : Program} {w : World} {K : PySem.W.Frag} {mg : Str → Option Value}
structure Ds (K : PySem.W.Frag) (mg : Str → Option Value) : Prop where
  d_other_one : Dfn K mg "other_one" s_other_one ["who"]
  d_is_number : Dfn K mg "is_number" s_is_number ["value", "least", "most"]
  d_moves_of : Dfn K mg "moves_of" s_moves_of ["board", "who"]
  d_turned_board : Dfn K mg "turned_board" s_turned_board ["board"]
  d_is_loopless : Dfn K mg "is_loopless" s_is_loopless ["board"]
  d_is_due : Dfn K mg "is_due" s_is_due ["board", "found", "who", "i", "rank"]
  d_ranks : Dfn K mg "ranks" s_ranks ["board"]
  d_rank_of : Dfn K mg "rank_of" s_rank_of ["rows", "who", "i"]
  d_winner : Dfn K mg "winner" s_winner ["board", "place", "who"]
  d_is_rank : Dfn K mg "is_rank" s_is_rank ["value"]
  d_is_right : Dfn K mg "is_right" s_is_right ["board", "value", "who", "i"]
  d_are_ranks : Dfn K mg "are_ranks" s_are_ranks ["board", "value"]
  d_best_by : Dfn K mg "best_by" s_best_by ["rows", "board", "place", "who"]
  d_best_move : Dfn K mg "best_move" s_best_move ["board", "place", "who"]
  d_line_of : Dfn K mg "line_of" s_line_of ["board", "place", "who", "limit"]
  d__law_box : Dfn K mg "_law_box" s__law_box ["script"]
  d__law_load : Dfn K mg "_law_load" s__law_load ["box"]
  d__law_draw : Dfn K mg "_law_draw" s__law_draw ["box", "many"]
  d__law_same : Dfn K mg "_law_same" s__law_same ["a", "b"]
  d__law_bent : Dfn K mg "_law_bent" s__law_bent ["box", "value"]
  d__law_board : Dfn K mg "_law_board" s__law_board ["box", "most"]
  d__law_other : Dfn K mg "_law_other" s__law_other ["who"]
  d__law_moves : Dfn K mg "_law_moves" s__law_moves ["board", "place", "who"]
  d__law_ranks : Dfn K mg "_law_ranks" s__law_ranks ["board"]
  d__law_best : Dfn K mg "_law_best" s__law_best ["board", "rows", "place", "who"]
  d__law_line : Dfn K mg "_law_line" s__law_line ["board", "rows", "place", "who", "limit"]
  d__law_winner : Dfn K mg "_law_winner" s__law_winner ["rows", "place", "who"]
  d__law_fine : Dfn K mg "_law_fine" s__law_fine ["box", "board"]
  n : Nm mg
  g : Gm K mg
theorem all_mk {h : Heap} {fa f2 : Addr} (X : K.In h) (G : h.Ns PySem.mainGlobals mg) (hfa : mg "law" = some (.ref fa)) (D : Ds K mg) {od2 an2 : Option Addr} {sl2 : Array (Option Value)} {oc2 kV2 dc2 pm2 cd2 ct2 : Value}
    (a2 : PySem.W.nsIn K PySem.mainGlobals "law" = some (some (.ref f2))) (l2 : K.lookup f2 = some ⟨oc2, od2, .func (PySem.W.fnOf "law" "law" (defArgs s_law) (defBody s_law) (defScope s_law) .none kV2 dc2 pm2 an2 cd2 ct2), sl2⟩) (c2 : PySem.W.codeIn K cd2 "law" = true) (k2 : PySem.W.keepIn K (.ref f2) = true) :
    ∃ fd : FuncData, (∀ (s : Shared) (v : Value), BindsTo s fd ⟨[v], []⟩ [("script", v)]) ∧ ∀ base : Heap, K.In base → base.Ns PySem.mainGlobals mg → FnOk P w K mg base CX0 11 fa fd ["script"] (spE K) := by
  have e := hfa.symm.trans (PySem.W.mg_of X G a2)
  cases e
  obtain ⟨fd, F2, hB⟩ : ∃ fd, Fun K "law" "law" s_law fa fd ∧ ∀ (s : Shared) (v : Value), BindsTo s fd ⟨[v], []⟩ [("script", v)] := ⟨_, fun_mk (st := s_law) l2 c2 k2, fun s v => .of_eq rfl⟩
  refine ⟨fd, hB, fun base _ _ => ?_⟩
  have h_other_one := c_other_one (P := P) (w := w) (base := base) D.d_other_one D.n D.g 
  have h_is_number := c_is_number (P := P) (w := w) (base := base) D.d_is_number D.n D.g 
  have h_moves_of := c_moves_of (P := P) (w := w) (base := base) D.d_moves_of D.n D.g 
  have h_turned_board := c_turned_board (P := P) (w := w) (base := base) D.d_turned_board D.n D.g 
  have h_is_loopless := c_is_loopless (P := P) (w := w) (base := base) D.d_is_loopless D.n D.g 
  have h_is_due := c_is_due (P := P) (w := w) (base := base) D.d_is_due D.n D.g h_moves_of h_other_one
  have h_ranks := c_ranks (P := P) (w := w) (base := base) D.d_ranks D.n D.g h_is_due
  have h_rank_of := c_rank_of (P := P) (w := w) (base := base) D.d_rank_of D.n D.g 
  have h_winner := c_winner (P := P) (w := w) (base := base) D.d_winner D.n D.g h_other_one h_rank_of h_ranks
  have h_is_rank := c_is_rank (P := P) (w := w) (base := base) D.d_is_rank D.n D.g h_is_number
  have h_is_right := c_is_right (P := P) (w := w) (base := base) D.d_is_right D.n D.g h_moves_of h_other_one h_rank_of
  have h_are_ranks := c_are_ranks (P := P) (w := w) (base := base) D.d_are_ranks D.n D.g h_is_rank h_is_right
  have h_best_by := c_best_by (P := P) (w := w) (base := base) D.d_best_by D.n D.g h_moves_of h_other_one h_rank_of
  have h_best_move := c_best_move (P := P) (w := w) (base := base) D.d_best_move D.n D.g h_best_by h_ranks
  have h_line_of := c_line_of (P := P) (w := w) (base := base) D.d_line_of D.n D.g h_best_by h_other_one h_ranks
  have h__law_box := c__law_box (P := P) (w := w) (base := base) D.d__law_box D.n D.g 
  have h__law_load := c__law_load (P := P) (w := w) (base := base) D.d__law_load D.n D.g 
  have h__law_draw := c__law_draw (P := P) (w := w) (base := base) D.d__law_draw D.n D.g h__law_load
  have h__law_same := c__law_same (P := P) (w := w) (base := base) D.d__law_same D.n D.g 
  have h__law_bent := c__law_bent (P := P) (w := w) (base := base) D.d__law_bent D.n D.g h__law_draw
  have h__law_board := c__law_board (P := P) (w := w) (base := base) D.d__law_board D.n D.g h__law_draw
  have h__law_other := c__law_other (P := P) (w := w) (base := base) D.d__law_other D.n D.g 
  have h__law_moves := c__law_moves (P := P) (w := w) (base := base) D.d__law_moves D.n D.g 
  have h__law_ranks := c__law_ranks (P := P) (w := w) (base := base) D.d__law_ranks D.n D.g h__law_moves h__law_other
  have h__law_best := c__law_best (P := P) (w := w) (base := base) D.d__law_best D.n D.g h__law_moves
  have h__law_line := c__law_line (P := P) (w := w) (base := base) D.d__law_line D.n D.g h__law_best h__law_other
  have h__law_winner := c__law_winner (P := P) (w := w) (base := base) D.d__law_winner D.n D.g h__law_other
  have h__law_fine := c__law_fine (P := P) (w := w) (base := base) D.d__law_fine D.n D.g (h__law_bent 6) h__law_best h__law_draw h__law_line h__law_ranks (h__law_same 6) h__law_winner h_are_ranks h_best_move h_is_loopless h_line_of h_ranks h_turned_board h_winner
  exact c_law F2 D.n D.g h__law_board h__law_box h__law_draw h__law_fine (h__law_same 6) h_ranks h_winner fun ns hl => run hl
end
end T54
open PySem PySem.W PyProof.Rows
set_option maxHeartbeats 0 in
theorem PySem.Challenge.cw_cantmove_k54_whole_ranks_holds : PySem.Challenge.rw_cantmove_k54_whole_ranks.Holds := by
  w_on; o_law; k_head; (case hw => w_witness2)
  k_fill
  refine L2.walk_ofB (l := PySem.Challenge.rw_cantmove_k54_whole_ranks) (n := 63) (k := 11) (x := "script") (CX := fun _ => L2.CX0) (sp := fun w => N.spE _) rfl (by decide) rfl ⟨rfl, by decide, by decide⟩ (fun w h Y => PySem.W.kIn_of Y) ?F (fun _ _ a ns hl _ _ hS => N.head_ok hl hS) (fun _ _ _ _ _ h => h)
  case F =>
    intro w mg fa h KX G hmg
    refine' T54.all_mk KX G hmg ?D ?a2 ?l2 ?c2 ?k2
    (case a2 => k_is); (case l2 => k_is); (case c2 => k_is); (case k2 => k_is)
    case D =>
      constructor
      · refine' Z.fn_dfn KX G ?aD ?lD ?cD ?kD (fun _ _ _ _ _ _ us hl => match us, hl with | [_], _ => rfl)
        (case aD => k_is); (case lD => k_is); (case cD => k_is); (case kD => k_is)
      · refine' Z.fn_dfn KX G ?aD ?lD ?cD ?kD (fun _ _ _ _ _ _ us hl => match us, hl with | [_, _, _], _ => rfl)
        (case aD => k_is); (case lD => k_is); (case cD => k_is); (case kD => k_is)
      · refine' Z.fn_dfn KX G ?aD ?lD ?cD ?kD (fun _ _ _ _ _ _ us hl => match us, hl with | [_, _], _ => rfl)
        (case aD => k_is); (case lD => k_is); (case cD => k_is); (case kD => k_is)
      · refine' Z.fn_dfn KX G ?aD ?lD ?cD ?kD (fun _ _ _ _ _ _ us hl => match us, hl with | [_], _ => rfl)
        (case aD => k_is); (case lD => k_is); (case cD => k_is); (case kD => k_is)
      · refine' Z.fn_dfn KX G ?aD ?lD ?cD ?kD (fun _ _ _ _ _ _ us hl => match us, hl with | [_], _ => rfl)
        (case aD => k_is); (case lD => k_is); (case cD => k_is); (case kD => k_is)
      · refine' Z.fn_dfn KX G ?aD ?lD ?cD ?kD (fun _ _ _ _ _ _ us hl => match us, hl with | [_, _, _, _, _], _ => rfl)
        (case aD => k_is); (case lD => k_is); (case cD => k_is); (case kD => k_is)
      · refine' Z.fn_dfn KX G ?aD ?lD ?cD ?kD (fun _ _ _ _ _ _ us hl => match us, hl with | [_], _ => rfl)
        (case aD => k_is); (case lD => k_is); (case cD => k_is); (case kD => k_is)
      · refine' Z.fn_dfn KX G ?aD ?lD ?cD ?kD (fun _ _ _ _ _ _ us hl => match us, hl with | [_, _, _], _ => rfl)
        (case aD => k_is); (case lD => k_is); (case cD => k_is); (case kD => k_is)
      · refine' Z.fn_dfn KX G ?aD ?lD ?cD ?kD (fun _ _ _ _ _ _ us hl => match us, hl with | [_, _, _], _ => rfl)
        (case aD => k_is); (case lD => k_is); (case cD => k_is); (case kD => k_is)
      · refine' Z.fn_dfn KX G ?aD ?lD ?cD ?kD (fun _ _ _ _ _ _ us hl => match us, hl with | [_], _ => rfl)
        (case aD => k_is); (case lD => k_is); (case cD => k_is); (case kD => k_is)
      · refine' Z.fn_dfn KX G ?aD ?lD ?cD ?kD (fun _ _ _ _ _ _ us hl => match us, hl with | [_, _, _, _], _ => rfl)
        (case aD => k_is); (case lD => k_is); (case cD => k_is); (case kD => k_is)
      · refine' Z.fn_dfn KX G ?aD ?lD ?cD ?kD (fun _ _ _ _ _ _ us hl => match us, hl with | [_, _], _ => rfl)
        (case aD => k_is); (case lD => k_is); (case cD => k_is); (case kD => k_is)
      · refine' Z.fn_dfn KX G ?aD ?lD ?cD ?kD (fun _ _ _ _ _ _ us hl => match us, hl with | [_, _, _, _], _ => rfl)
        (case aD => k_is); (case lD => k_is); (case cD => k_is); (case kD => k_is)
      · refine' Z.fn_dfn KX G ?aD ?lD ?cD ?kD (fun _ _ _ _ _ _ us hl => match us, hl with | [_, _, _], _ => rfl)
        (case aD => k_is); (case lD => k_is); (case cD => k_is); (case kD => k_is)
      · refine' Z.fn_dfn KX G ?aD ?lD ?cD ?kD (fun _ _ _ _ _ _ us hl => match us, hl with | [_, _, _, _], _ => rfl)
        (case aD => k_is); (case lD => k_is); (case cD => k_is); (case kD => k_is)
      · refine' Z.fn_dfn KX G ?aD ?lD ?cD ?kD (fun _ _ _ _ _ _ us hl => match us, hl with | [_], _ => rfl)
        (case aD => k_is); (case lD => k_is); (case cD => k_is); (case kD => k_is)
      · refine' Z.fn_dfn KX G ?aD ?lD ?cD ?kD (fun _ _ _ _ _ _ us hl => match us, hl with | [_], _ => rfl)
        (case aD => k_is); (case lD => k_is); (case cD => k_is); (case kD => k_is)
      · refine' Z.fn_dfn KX G ?aD ?lD ?cD ?kD (fun _ _ _ _ _ _ us hl => match us, hl with | [_, _], _ => rfl)
        (case aD => k_is); (case lD => k_is); (case cD => k_is); (case kD => k_is)
      · refine' Z.fn_dfn KX G ?aD ?lD ?cD ?kD (fun _ _ _ _ _ _ us hl => match us, hl with | [_, _], _ => rfl)
        (case aD => k_is); (case lD => k_is); (case cD => k_is); (case kD => k_is)
      · refine' Z.fn_dfn KX G ?aD ?lD ?cD ?kD (fun _ _ _ _ _ _ us hl => match us, hl with | [_, _], _ => rfl)
        (case aD => k_is); (case lD => k_is); (case cD => k_is); (case kD => k_is)
      · refine' Z.fn_dfn KX G ?aD ?lD ?cD ?kD (fun _ _ _ _ _ _ us hl => match us, hl with | [_, _], _ => rfl)
        (case aD => k_is); (case lD => k_is); (case cD => k_is); (case kD => k_is)
      · refine' Z.fn_dfn KX G ?aD ?lD ?cD ?kD (fun _ _ _ _ _ _ us hl => match us, hl with | [_], _ => rfl)
        (case aD => k_is); (case lD => k_is); (case cD => k_is); (case kD => k_is)
      · refine' Z.fn_dfn KX G ?aD ?lD ?cD ?kD (fun _ _ _ _ _ _ us hl => match us, hl with | [_, _, _], _ => rfl)
        (case aD => k_is); (case lD => k_is); (case cD => k_is); (case kD => k_is)
      · refine' Z.fn_dfn KX G ?aD ?lD ?cD ?kD (fun _ _ _ _ _ _ us hl => match us, hl with | [_], _ => rfl)
        (case aD => k_is); (case lD => k_is); (case cD => k_is); (case kD => k_is)
      · refine' Z.fn_dfn KX G ?aD ?lD ?cD ?kD (fun _ _ _ _ _ _ us hl => match us, hl with | [_, _, _, _], _ => rfl)
        (case aD => k_is); (case lD => k_is); (case cD => k_is); (case kD => k_is)
      · refine' Z.fn_dfn KX G ?aD ?lD ?cD ?kD (fun _ _ _ _ _ _ us hl => match us, hl with | [_, _, _, _, _], _ => rfl)
        (case aD => k_is); (case lD => k_is); (case cD => k_is); (case kD => k_is)
      · refine' Z.fn_dfn KX G ?aD ?lD ?cD ?kD (fun _ _ _ _ _ _ us hl => match us, hl with | [_, _, _], _ => rfl)
        (case aD => k_is); (case lD => k_is); (case cD => k_is); (case kD => k_is)
      · refine' Z.fn_dfn KX G ?aD ?lD ?cD ?kD (fun _ _ _ _ _ _ us hl => match us, hl with | [_, _], _ => rfl)
        (case aD => k_is); (case lD => k_is); (case cD => k_is); (case kD => k_is)
      · constructor
        · refine' PySem.W.mg_none_of KX G ?zD
          (case zD => k_is)
        · refine' PySem.W.mg_none_of KX G ?zD
          (case zD => k_is)
        · refine' PySem.W.mg_none_of KX G ?zD
          (case zD => k_is)
        · refine' PySem.W.mg_none_of KX G ?zD
          (case zD => k_is)
        · refine' PySem.W.mg_none_of KX G ?zD
          (case zD => k_is)
        · refine' PySem.W.mg_none_of KX G ?zD
          (case zD => k_is)
        · refine' PySem.W.mg_none_of KX G ?zD
          (case zD => k_is)
        · refine' PySem.W.mg_none_of KX G ?zD
          (case zD => k_is)
        · refine' PySem.W.mg_none_of KX G ?zD
          (case zD => k_is)
        · refine' PySem.W.mg_none_of KX G ?zD
          (case zD => k_is)
        · refine' PySem.W.mg_none_of KX G ?zD
          (case zD => k_is)
        · refine' PySem.W.mg_none_of KX G ?zD
          (case zD => k_is)
        · refine' PySem.W.mg_none_of KX G ?zD
          (case zD => k_is)
        · refine' PySem.W.mg_none_of KX G ?zD
          (case zD => k_is)
      · constructor
        · refine' N.gk_tup KX G ?zD ?lD ?fD ?sD
          (case zD => k_is); (case lD => k_is); (case fD => rfl); (case sD => decide)

