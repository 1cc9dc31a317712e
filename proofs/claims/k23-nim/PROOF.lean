import PyProof.Rows.All
import Wide.All
import OpenK.AllK
import Wide.FinOn
import HandS.Deep
import KE.SortData
import HandS.ForExc
import HandS.ForMost
import HandS.Wide
import HandS.EndBits
import HandS.Codes
import HandS.TupAny
import HandS.TupMul
import HandS.TupLe
import HandS.Flow
import HandS.Conv
import HandS.Style
import HandS.IsInst
import KE.DataEq
import HandS.TupSets
import KE.GoesMore
import HandS.DictComp
import PySem.Challenge.RW_cantmove_k23_whole_nim
set_option Elab.async false
set_option linter.all false
set_option autoImplicit false
set_option maxRecDepth 100000
set_option maxHeartbeats 4000000
namespace Z
open PySem PySem.W PySem.SeqAt PyProof.Rows PySem.Calls

/-! ### tuples, empty ones too, are sorted -/
section
variable {prog : Program} {w : World} {A : Around} {E : Value → Shared → Prop} {s : Shared}
theorem call_tup_lt {Q : Value → Shared → Prop} {l b : Addr} {items items2 : Array Value} {e r : Nat → Bool} (hl : s.heap.IsTuple l items) (hb : s.heap.IsTuple b items2)
    (he : ∀ j (h1 : j < items.size) (h2 : j < items2.size), EqAt A.in1 s items[j] items2[j] (e j)) (hr : ∀ j (h1 : j < items.size) (h2 : j < items2.size), e j = false → RcLt A.in1 s items[j] items2[j] (r j))
    (h : Q (.bool (firstLt e r (decide (items.size < items2.size)) (List.range (min items.size items2.size)))) s) : wpAny (model prog w) A (call (.builtin "tuple.__lt__") [.ref l, .ref b]) Q E s := by
  obtain ⟨⟨cls, dd, data, sl⟩, ho, hc, n, hd⟩ := id hl
  obtain ⟨⟨cls2, dd2, data2, sl2⟩, ho2, hc2, n2, hd2⟩ := id hb
  simp only at hc hd hc2 hd2
  subst hc hd hc2 hd2
  exact call_meets F.slot_tuple_lt ⟨_, ho, rfl⟩ F.entry_tuple_lt (F.args_tuple_lt_2 _ _) (tuple_ltAt l b items items2 n n2 dd dd2 sl sl2 e r) ⟨ho, ho2, he, hr, h⟩
theorem oneLt_tups {xs ys : List PyData} {a b : Value} {as bs : List Addr} {Q : Bool → Shared → Prop} (ra : Reads s.heap a (.tuple xs) as) (rb : Reads s.heap b (.tuple ys) bs) (hal : alikeAll xs ys = true)
    (hu : A.units + min (PyData.tuple xs).depth (PyData.tuple ys).depth < cLine) (hq : Q (dataLt (.tuple xs) (.tuple ys)) s) : wpAny (model prog w) A (oneLt' true a b) Q E s := by
  cases ra with
  | @tuple l o vs n _ as₁ h1 h2 h3 h4 =>
    cases rb with
    | @tuple l' o' vs' n' _ bs₁ k1 k2 k3 k4 =>
      have n1 : vs.size = xs.length := by simpa using ReadsAll.length _ _ _ h4
      have n2 : vs'.size = ys.length := by simpa using ReadsAll.length _ _ _ k4
      rw [dataLt_tuple, ← firstLt_toks xs ys hal, ← n1, ← n2] at hq
      rw [oneLt'_eq]
      simp only [if_true]
      refine wpAny_bind (wpAny_cRoomFor (room_here hu) ?_)
      refine wpAny_bind (wpAny_callSpecialIfBound?_slot (T := "tuple") ⟨_, h1, h2⟩ F.slot_tuple_lt (call_tup_lt (e := pairEq xs ys) (r := fun j => dataLt (xs.getD j .none) (ys.getD j .none)) ⟨_, h1, h2, _, h3⟩ ⟨_, k1, k2, _, k3⟩ (fun j j1 j2 => ?_) (fun j j1 j2 hj => ?_) ?_))
      · have := eqAt_alikeAll xs ys A.in1 s vs.toList vs'.toList _ _ h4 k4 hal (room_in hu) j (by simpa using j1) (by simpa using j2)
        simpa using this
      · have := rcLt_alikeAll xs ys A.in1 s vs.toList vs'.toList _ _ h4 k4 hal (room_in hu) j (by simpa using j1) (by simpa using j2) hj
        simpa using this
      · exact wpAny_truthy_bool hq
theorem firsts_tups {M : Model} : ∀ {vs : List Value} {ds : List PyData} {Q : List (Option Value) → Shared → Prop}, EachIs (fun v d => ∃ as, Reads s.heap v d as) vs ds → (∀ d ∈ ds, ∃ xs, d = .tuple xs) →
    (∀ fs : List (Option Value), EachIs (fun f d => f.isSome = true ↔ d ≠ .tuple []) fs ds → Q fs s) → wpAny M A (vs.mapM firstOfTuple') Q E s
  | _, _, _, .nil, _, h => by rw [List.mapM_nil]; exact wpAny_pure (h [] .nil)
  | v :: vs, d :: ds, Q, .cons ⟨as, r⟩ t, ht, h => by
    obtain ⟨xs, rfl⟩ := ht d List.mem_cons_self
    cases r with
    | @tuple a o items n _ _ ho hc hd hr =>
      have hn : items.size = xs.length := by simpa using ReadsAll.length _ _ _ hr
      rw [List.mapM_cons]
      refine wpAny_bind ?_
      rw [kas_first_eq]
      refine wpAny_bind (Looks.here (show Looks M s.heap (typeOf (.ref a)) o.cls from (Looks.ld ho).andThen .now) ?_)
      rw [hc, if_neg (by first | decide | simp)]
      refine wpAny_bind (listItems_at ho hd (wpAny_pure ?_))
      refine wpAny_bind (firsts_tups (Q := fun bs s' => wpAny M A (pure (items[0]? :: bs)) Q E s') t (fun d hd => ht d (List.mem_cons_of_mem _ hd)) fun fs hf => wpAny_pure (h _ (.cons ?_ hf)))
      have : (items[0]?).isSome = true ↔ 0 < items.size := by simp
      rw [this, hn]
      cases xs <;> simp
def SrtK (ds : List PyData) : Prop := Sortable ds ∨ ∀ d ∈ ds, ∃ xs, d = .tuple xs
theorem SrtK.sub {ds ds' : List PyData} (h : SrtK ds) (k : ∀ d ∈ ds', d ∈ ds) : SrtK ds' := by
  rcases h with (z | z) | z
  · exact .inl (.inl fun d hd => z d (k d hd))
  · exact .inl (.inr fun d hd => z d (k d hd))
  · exact .inr fun d hd => z d (k d hd)
theorem EachIs.right {α β : Type} {R : α → β → Prop} : ∀ {as : List α} {bs : List β}, EachIs R as bs → ∀ b ∈ bs, ∃ a ∈ as, R a b
  | _, _, .nil, _, h => by cases h
  | _, _, .cons (a := a) r t, b, h => by
    rcases List.mem_cons.mp h with rfl | h
    · exact ⟨a, List.mem_cons_self, r⟩
    · obtain ⟨a', h1, h2⟩ := EachIs.right t b h
      exact ⟨a', List.mem_cons_of_mem _ h1, h2⟩
theorem sortsAt {vs : List Value} {ds : List PyData} (e : EachIs (fun v d => ∃ as, Reads s.heap v d as) vs ds) (hal : AllAlike ds) (hk : SrtK ds) (hu : ∀ d, d ∈ ds → A.units + d.depth < cLine) : SortsAt prog w A s (dataKind s.heap ds) vs := by
  rcases hk with hk | ht
  · exact SortsAt.data e hal hk hu
  by_cases hne : ∀ d ∈ ds, d ≠ .tuple []
  · refine SortsAt.data e hal (.inl fun d hd => ?_) hu
    obtain ⟨xs, rfl⟩ := ht d hd
    cases xs with
    | nil => exact (hne _ hd rfl).elim
    | cons x r => exact ⟨x, r, rfl⟩
  have room : ∀ {d d' : PyData}, d ∈ ds → A.units + min d.depth d'.depth < cLine := fun {d d'} hd => Nat.lt_of_le_of_lt (Nat.add_le_add_left (Nat.min_le_left _ _) _) (hu d hd)
  have keys : ∀ v, v ∈ vs → ∃ a, (dataKind s.heap ds).keyOf v = some a := fun v hv => by
    obtain ⟨d, hd, as, r⟩ := e.left v hv
    exact ⟨_, dataKind_some hal hd r⟩
  have hnone : ∀ {fs : List (Option Value)}, EachIs (fun f d => f.isSome = true ↔ d ≠ .tuple []) fs ds → ¬ (fs.toArray.all fun x => x.isSome) = true := fun {fs} hf ha => by
    refine hne fun d hd => ?_
    obtain ⟨f, h1, h2⟩ := EachIs.right hf d hd
    simp only [List.all_toArray, List.all_eq_true] at ha
    exact h2.mp (ha f h1)
  have lt : ∀ (E : Value → Shared → Prop) (x y : Value) (a b : (dataKind s.heap ds).α) {Q : Bool → Shared → Prop} (f : Bool), (dataKind s.heap ds).keyOf x = some a → (dataKind s.heap ds).keyOf y = some b → Q ((dataKind s.heap ds).blt a b) s → wpAny (model prog w) A (oneLt' f x y) Q E s := by
    intro E x y a b Q f ha hb hq
    obtain ⟨d, as, hd, ra, rfl⟩ := dataKind_inv ha
    obtain ⟨d', as', hd', rb, rfl⟩ := dataKind_inv hb
    have hdd := hal d hd d' hd'
    obtain ⟨xs, rfl⟩ := ht d hd
    obtain ⟨ys, rfl⟩ := ht d' hd'
    cases f with
    | true => exact oneLt_tups ra rb (by simpa [alike] using hdd) (room hd) hq
    | false => exact oneLt_alike (fun h => by cases h) ra rb hdd (by simp) (room hd) hq
  cases ds with
  | nil => exact (hne fun d hd => by cases hd).elim
  | cons d₀ ds₀ =>
    by_cases h0 : d₀ = .tuple []
    · refine ⟨keys, oneType', fun E x y a b Q ha hb hq => ?_, fun h2 E Q hq => ?_⟩
      · rw [keyLt'_oneType]
        exact lt E x y a b true ha hb hq
      · rw [keyKind'_eq, List.mapM_toArray, map_eq_pure_bind]
        refine wpAny_bind (wpAny_bind (firsts_tups e ht fun fs hf => wpAny_pure ?_))
        rw [if_neg (hnone hf)]
        cases hf with
        | @cons f _ fr _ hf0 hfr =>
          have hf0' : f.isSome = false := by
            cases hs : f.isSome with
            | false => rfl
            | true => exact (hf0.mp hs h0).elim
          rw [if_neg (by cases f with
            | none => simp
            | some v => simp at hf0')]
          rw [oneTypeOnly'_eq, List.mapM_toArray, map_eq_pure_bind]
          refine wpAny_bind (wpAny_bind (wpAny_bind (kas_mapM (r := Value.type "tuple") _ (fun v hv Q' hq => ?_) (wpAny_pure ?_))))
          · obtain ⟨d, hd, as, r⟩ := e.left v hv
            obtain ⟨xs, rfl⟩ := ht d hd
            exact Looks.here (looks_reads r) hq
          · cases vs with
            | nil => cases e
            | cons v₁ vr =>
              have hall : ((List.map (fun _ => Value.type "tuple") (v₁ :: vr)).toArray.all fun x => x == Value.type "tuple") = true := by
                simp only [List.all_toArray, List.all_map, List.all_eq_true]
                intro _ _
                exact beq_self_eq_true _
              have h1 : (List.map (fun _ => Value.type "tuple") (v₁ :: vr)).toArray[0]? = some (Value.type "tuple") := by simp
              rw [h1]
              simp only [hall, if_true]
              exact wpAny_pure (wpAny_pure hq)
    · refine ⟨keys, general', fun E x y a b Q ha hb hq => ?_, fun h2 E Q hq => ?_⟩
      · exact lt E x y a b false ha hb hq
      · rw [keyKind'_eq, List.mapM_toArray, map_eq_pure_bind]
        refine wpAny_bind (wpAny_bind (firsts_tups e ht fun fs hf => wpAny_pure ?_))
        rw [if_neg (hnone hf)]
        cases hf with
        | @cons f _ fr _ hf0 hfr =>
          have hf0' : f.isSome = true := hf0.mpr h0
          rw [if_pos (by cases f with
            | none => simp at hf0'
            | some v => simp)]
          exact wpAny_pure hq
end
section
variable {β : Type} {prog : Program} {w : World} {A : Around} {E : Value → Shared → Prop} {s : Shared} {vs : List Value} {bs : List β} {R : Value → β → Prop} {enc : β → PyData}
theorem sortedX {l : Addr} {Q : Value → Shared → Prop} (hl : s.heap.IsList l vs.toArray) (e : EachIs R vs bs) (er : EachIs (fun v b => ∃ as, Reads s.heap v (enc b) as) vs bs) (hal : AllAlike (bs.map enc)) (hk : SrtK (bs.map enc)) (hL : bs.length ≤ sizeLine)
    (hu : ∀ b, b ∈ bs → A.units + 2 + (enc b).depth < cLine) (h : ∀ out, out.length = bs.length → EachIs R out (bs.mergeSort (dataLe false enc)) → Q (.ref (s.heap.objs.size + 1)) { s with heap := sortedAll s.heap vs (List.toArray out) }) :
    wpAny (model prog w) A (call (.builtin "sorted") [.ref l]) Q E s := by
  have er' : EachIs (fun v b => ∃ as, Reads (sortingHeap (copyHeap s.heap vs) (s.heap.objs.size + 1) vs) v (enc b) as) vs bs := er.mono fun _ _ ⟨as, r⟩ => ⟨as, PyProof.Rows.Reads.keeps (fun _ _ => sorting_copy_old) r⟩
  exact sorted_vals hl (sortsAt (s := { s with heap := sortingHeap (copyHeap s.heap vs) (s.heap.objs.size + 1) vs }) (each_map (R := fun v d => ∃ as, Reads (sortingHeap (copyHeap s.heap vs) (s.heap.objs.size + 1) vs) v d as) enc er') hal hk (bound_map hu)) (by rw [e.length]; exact hL)
    (h _ (by rw [sortVals_length false rfl]; exact e.length) (sortVals_data false e er' hal))
theorem listSortX {a : Addr} {n : Nat} {Q : Value → Shared → Prop} (ho : s.heap.get? a = some (seqObj "list" vs.toArray n)) (e : EachIs R vs bs) (er : EachIs (fun v b => ∃ as, Reads s.heap v (enc b) as ∧ a ∉ as) vs bs) (hal : AllAlike (bs.map enc)) (hk : SrtK (bs.map enc)) (hL : bs.length ≤ sizeLine)
    (hu : ∀ b, b ∈ bs → A.units + 1 + (enc b).depth < cLine) (h : ∀ out, out.length = bs.length → EachIs R out (bs.mergeSort (dataLe false enc)) → Q .none { s with heap := sortedHeap s.heap a vs (List.toArray out) }) :
    wpAny (model prog w) A (call (.builtin "list.sort") [.ref a]) Q E s := by
  have er' : EachIs (fun v b => ∃ as, Reads (sortingHeap s.heap a vs) v (enc b) as) vs bs := each_keepBut (h' := sortingHeap s.heap a vs) (fun _ _ hb q => sortingHeap_old hb q) (fun o q => by rw [ho] at q; rw [← Option.some.inj q]) hal er
  refine wpAny_call_entry slot_list_sort ⟨_, ho, rfl⟩ entry_list_sort (list_sort_vals (κ := dataKind (sortingHeap s.heap a vs) (bs.map enc)) ho (sortsAt (s := { s with heap := sortingHeap s.heap a vs }) (each_map (R := fun v d => ∃ as, Reads (sortingHeap s.heap a vs) v d as) enc er') hal hk (bound_map hu)) (by rw [e.length]; exact hL) ⟨.none, rfl, ?_⟩) (args_list_sort _)
  exact h _ (by rw [sortVals_length false rfl]; exact e.length) (sortVals_data false e er' hal)
end
end Z

namespace Z
open PySem L2

/-! ### heaps that grow -/
def Ext (F H : Hp) : Prop := ∀ a o, F a = some o → H a = some o
theorem Ext.refl (F : Hp) : Ext F F := fun _ _ h => h
theorem Ext.trans {F G H : Hp} (a : Ext F G) (b : Ext G H) : Ext F H := fun x o h => b x o (a x o h)
theorem Ext.up {F : Hp} {p : Addr} {o : HO} (h : F p = none) : Ext F (upd F p o) := fun a u e => by
  rw [upd_ne (ne_of_none e h)]
  exact e
theorem Ext.rd {F H : Hp} {a : Addr} {u : HO} (e : Ext F H) (h : Rd F a u) : Rd H a u := by
  rcases h with h | ⟨o, h⟩
  · exact .inl (e a _ h)
  · exact .inr ⟨o, e a _ h⟩
theorem Ext.l {K : PySem.W.Frag} {F H : Hp} {a : Addr} {xs : List V} (e : Ext F H) (h : SqL K F a xs) : SqL K H a xs := h.elim (fun z => .inl (e.rd z)) .inr
theorem Ext.t {K : PySem.W.Frag} {F H : Hp} {a : Addr} {xs : List V} (e : Ext F H) (h : SqT K F a xs) : SqT K H a xs := h.elim (fun z => .inl (e.rd z)) .inr

mutual
theorem dpUp {K : PySem.W.Frag} {F H : Hp} (e : Ext F H) : ∀ (d : PyData) (v : V), Dp K F v d → Dp K H v d
  | .none, _, h => by cases h; exact .non
  | .bool b, _, h => by cases h; exact .bl b
  | .int i, _, h => by cases h; exact .int i
  | .str x, _, h => by cases h; exact .str x
  | .list ds, _, h => by
    cases h with
    | lst hs ha => exact .lst (e.l hs) (dpsUp e ds _ ha)
  | .tuple ds, _, h => by
    cases h with
    | tup hs ha => exact .tup (e.t hs) (dpsUp e ds _ ha)
  | .dict _, _, h => by cases h
theorem dpsUp {K : PySem.W.Frag} {F H : Hp} (e : Ext F H) : ∀ (ds : List PyData) (vs : List V), DpAll K F vs ds → DpAll K H vs ds
  | [], _, h => by cases h; exact .nil
  | d :: ds, _, h => by
    cases h with
    | cons h1 h2 => exact .cons (dpUp e d _ h1) (dpsUp e ds _ h2)
end
theorem dpsLen {K : PySem.W.Frag} {F : Hp} : ∀ {ds : List PyData} {vs : List V}, DpAll K F vs ds → vs.length = ds.length
  | [], _, h => by cases h; rfl
  | d :: ds, _, h => by
    cases h with
    | cons h1 h2 => simp [dpsLen h2]
theorem dpsGet {K : PySem.W.Frag} {F : Hp} : ∀ {ds : List PyData} {vs : List V} {i : Nat} {x : PyData}, DpAll K F vs ds → ds[i]? = some x → ∃ v, vs[i]? = some v ∧ Dp K F v x
  | [], _, i, x, h, e => by simp at e
  | d :: ds, _, 0, x, h, e => by
    cases h with
    | cons h1 h2 => simp at e; subst e; exact ⟨_, rfl, h1⟩
  | d :: ds, _, i + 1, x, h, e => by
    cases h with
    | cons h1 h2 =>
      rw [List.getElem?_cons_succ] at e
      obtain ⟨v, h3, h4⟩ := dpsGet h2 e
      exact ⟨v, by rw [List.getElem?_cons_succ]; exact h3, h4⟩
theorem dpsGet' {K : PySem.W.Frag} {F : Hp} : ∀ {ds : List PyData} {vs : List V} {i : Nat} {v : V}, DpAll K F vs ds → vs[i]? = some v → ∃ x, ds[i]? = some x ∧ Dp K F v x
  | _, [], i, v, h, e => by simp at e
  | _, w :: vs, 0, v, h, e => by
    cases h with
    | cons h1 h2 => simp at e; subst e; exact ⟨_, rfl, h1⟩
  | _, w :: vs, i + 1, v, h, e => by
    cases h with
    | cons h1 h2 =>
      rw [List.getElem?_cons_succ] at e
      obtain ⟨v, h3, h4⟩ := dpsGet' h2 e
      exact ⟨v, by rw [List.getElem?_cons_succ]; exact h3, h4⟩
theorem dpsApp {K : PySem.W.Frag} {F : Hp} : ∀ {ds es : List PyData} {vs ws : List V}, DpAll K F vs ds → DpAll K F ws es → DpAll K F (vs ++ ws) (ds ++ es)
  | [], _, _, _, h, g => by cases h; exact g
  | d :: ds, _, _, _, h, g => by
    cases h with
    | cons h1 h2 => exact .cons h1 (dpsApp h2 g)
theorem dpsTake {K : PySem.W.Frag} {F : Hp} : ∀ {ds : List PyData} {vs : List V} (n : Nat), DpAll K F vs ds → DpAll K F (vs.take n) (ds.take n)
  | _, _, 0, _ => .nil
  | [], _, n + 1, h => by cases h; exact .nil
  | d :: ds, _, n + 1, h => by
    cases h with
    | cons h1 h2 => exact .cons h1 (dpsTake n h2)
theorem dpsDrop {K : PySem.W.Frag} {F : Hp} : ∀ {ds : List PyData} {vs : List V} (n : Nat), DpAll K F vs ds → DpAll K F (vs.drop n) (ds.drop n)
  | _, _, 0, h => h
  | [], _, n + 1, h => by cases h; exact .nil
  | d :: ds, _, n + 1, h => by
    cases h with
    | cons h1 h2 => exact dpsDrop n h2
theorem dpsRev {K : PySem.W.Frag} {F : Hp} : ∀ {ds : List PyData} {vs : List V}, DpAll K F vs ds → DpAll K F vs.reverse ds.reverse
  | [], _, h => by cases h; exact .nil
  | d :: ds, _, h => by
    cases h with
    | cons h1 h2 => rw [List.reverse_cons, List.reverse_cons]; exact dpsApp (dpsRev h2) (.cons h1 .nil)
theorem dpsSet {K : PySem.W.Frag} {F : Hp} {x : PyData} {v : V} (hx : Dp K F v x) : ∀ {ds : List PyData} {vs : List V} (n : Nat), DpAll K F vs ds → DpAll K F (vs.set n v) (ds.set n x)
  | [], _, _, h => by cases h; exact .nil
  | d :: ds, _, 0, h => by
    cases h with
    | cons h1 h2 => exact .cons hx h2
  | d :: ds, _, n + 1, h => by
    cases h with
    | cons h1 h2 => exact .cons h1 (dpsSet hx n h2)

/-! ### what is owned -/
/-- a thing of its own: what is true of it (the frozen heap, the heap, the value, its addresses) -/
structure Own where
  holds : PySem.W.Frag → Hp → Hp → V → List Addr → Prop
  stay : ∀ {K : PySem.W.Frag} {F F' H H' : Hp} {v : V} {fp : List Addr}, holds K F H v fp → Ext F F' → (∀ a ∈ fp, ∀ o, H a = some o → H' a = some o) → holds K F' H' v fp

inductive IT where
  | un | d (x : PyData) | o (P : Own)
/-- an entry: what it is, its value -/
abbrev En := IT × Option V
def Ent (K : PySem.W.Frag) (F H : Hp) : IT → Option V → List Addr → Prop
  | .un, _, fp => fp = []
  | .d x, v, fp => fp = [] ∧ ∃ u, v = some u ∧ Dp K F u x
  | .o P, v, fp => ∃ u, v = some u ∧ P.holds K F H u fp
abbrev EF := En × List Addr
def fpsOf (L : List EF) : List Addr := L.flatMap (·.2)
structure Held (K : PySem.W.Frag) (F H : Hp) (L : List EF) : Prop where
  ext : Ext F H
  ent : ∀ x ∈ L, Ent K F H x.1.1 x.1.2 x.2
  nd : (fpsOf L).Nodup
  own : ∀ a ∈ fpsOf L, F a = none ∧ ∃ o, H a = some o
def OK (K : PySem.W.Frag) (l : List En) (H : Hp) : Prop := ∃ F L, L.map (·.1) = l ∧ Held K F H L

theorem mem_fps {L : List EF} {a : Addr} : a ∈ fpsOf L ↔ ∃ x ∈ L, a ∈ x.2 := by
  unfold fpsOf
  rw [List.mem_flatMap]
theorem Ent.up {K : PySem.W.Frag} {F F' H H' : Hp} (e : Ext F F') : ∀ {i : IT} {v : Option V} {fp : List Addr}, Ent K F H i v fp → (∀ a ∈ fp, ∀ o, H a = some o → H' a = some o) → Ent K F' H' i v fp
  | .un, _, _, h, _ => h
  | .d x, _, _, ⟨h1, u, h2, h3⟩, _ => ⟨h1, u, h2, dpUp e x u h3⟩
  | .o P, _, _, ⟨u, h1, h2⟩, k => ⟨u, h1, P.stay h2 e k⟩

section
variable {K : PySem.W.Frag} {H H' : Hp} {l l' : List En}

theorem lift_perm : ∀ {l l' : List En} (p : l.Perm l') {L : List EF}, L.map (·.1) = l → ∃ L', L'.map (·.1) = l' ∧ L.Perm L' := by
  intro l l' p
  induction p with
  | nil => intro L h; exact ⟨L, h, .refl _⟩
  | cons x p ih =>
    intro L h
    cases L with
    | nil => simp at h
    | cons y L =>
      simp at h
      obtain ⟨h1, h2⟩ := h
      obtain ⟨L', e, q⟩ := ih h2
      exact ⟨y :: L', by simp [h1, e], q.cons y⟩
  | swap x y l =>
    intro L h
    match L, h with
    | a :: b :: L, h =>
      simp at h
      obtain ⟨h1, h2, h3⟩ := h
      exact ⟨b :: a :: L, by simp [h1, h2, h3], List.Perm.swap b a L⟩
  | trans p q ih1 ih2 =>
    intro L h
    obtain ⟨L1, e1, q1⟩ := ih1 h
    obtain ⟨L2, e2, q2⟩ := ih2 e1
    exact ⟨L2, e2, q1.trans q2⟩
theorem fps_perm {L L' : List EF} (p : L.Perm L') : (fpsOf L).Perm (fpsOf L') := by
  unfold fpsOf
  exact List.Perm.flatMap_right _ p
theorem Held.perm {F : Hp} {L L' : List EF} (p : L.Perm L') (h : Held K F H L) : Held K F H L' :=
  ⟨h.ext, fun x hx => h.ent x (p.mem_iff.mpr hx), (fps_perm p).nodup_iff.mp h.nd, fun a ha => h.own a ((fps_perm p).mem_iff.mpr ha)⟩
theorem OK.perm (p : l.Perm l') (h : OK K l H) : OK K l' H := by
  obtain ⟨F, L, e, g⟩ := h
  obtain ⟨L', e', q⟩ := lift_perm p e
  exact ⟨F, L', e', g.perm q⟩
theorem Held.tail {F : Hp} {x : EF} {L : List EF} (h : Held K F H (x :: L)) : Held K F H L :=
  ⟨h.ext, fun y hy => h.ent y (List.mem_cons_of_mem _ hy), (by
    have := h.nd
    unfold fpsOf at this
    rw [List.flatMap_cons] at this
    exact (List.nodup_append.mp this).2.1), fun a ha => h.own a (by
    unfold fpsOf
    rw [List.flatMap_cons]
    exact List.mem_append_right _ ha)⟩
theorem OK.tail {x : En} (h : OK K (x :: l) H) : OK K l H := by
  obtain ⟨F, L, e, g⟩ := h
  cases L with
  | nil => simp at e
  | cons y L => simp at e; exact ⟨F, L, e.2, g.tail⟩
theorem OK.right {k : List En} (h : OK K (k ++ l) H) : OK K l H := by
  induction k with
  | nil => exact h
  | cons x k ih => exact ih (OK.tail h)
theorem OK.left {k : List En} (h : OK K (l ++ k) H) : OK K l H := OK.right (k := k) (h.perm List.perm_append_comm)
theorem set_perm {α : Type} : ∀ {l : List α} {i : Nat} {y x : α}, l[i]? = some y → (x :: l).Perm (y :: l.set i x)
  | [], i, y, x, h => by simp at h
  | a :: l, 0, y, x, h => by
    simp at h
    subst h
    exact List.Perm.swap _ _ _
  | a :: l, i + 1, y, x, h => by
    have ih := set_perm (l := l) (i := i) (y := y) (x := x) (by simpa using h)
    rw [List.set_cons_succ]
    exact (List.Perm.swap a x l).trans ((ih.cons a).trans (List.Perm.swap y a _))
/-- a new entry in the place of the i-th -/
theorem OK.set {x : En} (i : Nat) (h : OK K (x :: l) H) : OK K (l.set i x) H := by
  cases e : l[i]? with
  | none =>
    rw [List.set_eq_of_length_le (List.getElem?_eq_none_iff.mp e)]
    exact h.tail
  | some y => exact (h.perm (set_perm e)).tail
/-- the i-th entry to the front, another in its place -/
theorem Held.unCons {F : Hp} {L : List EF} {v : Option V} (h : Held K F H L) : Held K F H (((IT.un, v), []) :: L) :=
  ⟨h.ext, fun y hy => by
    rcases List.mem_cons.mp hy with e | e
    · subst e; rfl
    · exact h.ent y e, by unfold fpsOf; rw [List.flatMap_cons]; exact h.nd, fun a ha => h.own a (by unfold fpsOf at ha ⊢; rw [List.flatMap_cons] at ha; exact ha)⟩
theorem OK.un {v : Option V} (h : OK K l H) : OK K ((IT.un, v) :: l) H := by
  obtain ⟨F, L, e, g⟩ := h
  exact ⟨F, ((IT.un, v), []) :: L, by rw [List.map_cons, e], g.unCons⟩
theorem OK.uns (vs : List (Option V)) (h : OK K l H) : OK K (vs.map (fun v => (IT.un, v)) ++ l) H := by
  induction vs with
  | nil => exact h
  | cons v vs ih => exact ih.un
theorem OK.out {i : Nat} {x : IT} {v : Option V} (e : l[i]? = some (x, v)) (h : OK K l H) : OK K ((x, v) :: l.set i (IT.un, v)) H := (h.un (v := v)).perm (set_perm e)
/-- a known datum once more -/
theorem Held.dCons {F : Hp} {L : List EF} {v : V} {x : PyData} (h : Held K F H L) (hd : Dp K F v x) : Held K F H (((IT.d x, some v), []) :: L) :=
  ⟨h.ext, fun y hy => by
    rcases List.mem_cons.mp hy with e | e
    · subst e; exact ⟨rfl, v, rfl, hd⟩
    · exact h.ent y e, by unfold fpsOf; rw [List.flatMap_cons]; exact h.nd, fun a ha => h.own a (by unfold fpsOf at ha ⊢; rw [List.flatMap_cons] at ha; exact ha)⟩
theorem mem_map1 {L : List EF} {y : En} (h : y ∈ L.map (·.1)) : ∃ fp, (y, fp) ∈ L := by
  obtain ⟨z, hz, e⟩ := List.mem_map.mp h
  exact ⟨z.2, by rw [← e]; exact hz⟩
theorem OK.dup {x : PyData} {v : Option V} (m : (IT.d x, v) ∈ l) (h : OK K l H) : ∃ u, v = some u ∧ Dp K H u x ∧ OK K ((IT.d x, some u) :: l) H := by
  obtain ⟨F, L, e, g⟩ := h
  subst e
  obtain ⟨fp, hm⟩ := mem_map1 m
  obtain ⟨_, u, e1, hd⟩ := g.ent _ hm
  exact ⟨u, e1, dpUp g.ext x u hd, F, _, by simp, g.dCons hd⟩
/-- plain values need nothing of the heap -/
def flat : V → PyData → Prop
  | .non, .none => True
  | .bl b, .bool c => b = c
  | .int i, .int j => i = j
  | .str x, .str y => x = y
  | _, _ => False
theorem flatDp {F : Hp} {v : V} {x : PyData} (h : flat v x) : Dp K F v x := by
  cases v <;> cases x <;> first | exact h.elim | skip
  · exact .non
  · have e : _ = _ := h; subst e; exact .bl _
  · have e : _ = _ := h; subst e; exact .int _
  · have e : _ = _ := h; subst e; exact .str _
theorem OK.flat {x : PyData} {v : V} (f : flat v x) (h : OK K l H) : OK K ((IT.d x, some v) :: l) H := by
  obtain ⟨F, L, e, g⟩ := h
  exact ⟨F, _, by simp [e], g.dCons (flatDp f)⟩

/-! ### new objects -/
def ds2 (ds : List PyData) (vs : List V) : List En := List.zipWith (fun x v => (IT.d x, some v)) ds vs
theorem held_ds {F : Hp} : ∀ {ds : List PyData} {vs : List V} {L : List EF}, ds.length = vs.length → L.map (·.1) = ds2 ds vs ++ l → Held K F H L → DpAll K F vs ds
  | [], [], L, _, _, _ => .nil
  | d :: ds, v :: vs, L, h, e, g => by
    cases L with
    | nil => simp [ds2] at e
    | cons y L =>
      simp only [ds2, List.zipWith_cons_cons, List.map_cons, List.cons_append, List.cons.injEq] at e
      obtain ⟨e1, e2⟩ := e
      have k := g.ent y List.mem_cons_self
      rw [e1] at k
      obtain ⟨_, u, eu, hd⟩ := k
      cases eu
      exact .cons hd (held_ds (by simpa using h) e2 g.tail)
  | [], v :: vs, L, h, _, _ => by simp at h
  | d :: ds, [], L, h, _, _ => by simp at h
theorem Held.grow {F F' : Hp} {L : List EF} (h : Held K F H L) (e1 : Ext F F') (e2 : Ext F' H') (k : ∀ a ∈ fpsOf L, ∀ o, H a = some o → H' a = some o) (n : ∀ a ∈ fpsOf L, F' a = none) : Held K F' H' L :=
  ⟨e2, fun x hx => (h.ent x hx).up e1 fun a ha o ho => k a (mem_fps.mpr ⟨x, hx, ha⟩) o ho, h.nd, fun a ha => ⟨n a ha, by
    obtain ⟨o, ho⟩ := (h.own a ha).2
    exact ⟨o, k a ha o ho⟩⟩⟩
theorem ext_none {F : Hp} {p : Addr} (e : Ext F H) (h : H p = none) : F p = none := by
  cases q : F p with
  | none => rfl
  | some o => rw [e p o q] at h; cases h
/-- a new thing laid, of the frozen part -/
theorem Held.frozen {F : Hp} {L : List EF} {p : Addr} {o : HO} (h : Held K F H L) (hp : H p = none) : Held K (upd F p o) (upd H p o) L := by
  have np : ∀ a ∈ fpsOf L, a ≠ p := fun a ha z => by
    obtain ⟨u, hu⟩ := (h.own a ha).2
    rw [z, hp] at hu
    cases hu
  refine h.grow (Ext.up (ext_none h.ext hp)) (fun a u q => ?_) (fun a ha u hu => ?_) fun a ha => ?_
  · by_cases e : a = p
    · subst e; rw [upd_same] at q ⊢; exact q
    · rw [upd_ne e] at q ⊢; exact h.ext a u q
  · rw [upd_ne (np a ha)]; exact hu
  · rw [upd_ne (np a ha)]; exact (h.own a ha).1
/-- .. of its own -/
theorem Held.fresh {F : Hp} {L : List EF} {p : Addr} {o : HO} (h : Held K F H L) (hp : H p = none) : Held K F (upd H p o) L :=
  h.grow (Ext.refl F) (fun a u q => by
    have e := h.ext a u q
    rw [upd_ne (ne_of_none e hp)]
    exact e) (fun a ha u hu => by rw [upd_ne (ne_of_none hu hp)]; exact hu) fun a ha => (h.own a ha).1
theorem OK.split {k : List En} (h : OK K (k ++ l) H) : ∃ F L1 L2, L1.map (·.1) = k ∧ L2.map (·.1) = l ∧ Held K F H (L1 ++ L2) := by
  obtain ⟨F, L, e, g⟩ := h
  obtain ⟨L1, L2, e1, e2, e3⟩ := List.map_eq_append_iff.mp e
  subst e1
  exact ⟨F, L1, L2, e2, e3, g⟩
theorem Held.right {F : Hp} {L1 L2 : List EF} (h : Held K F H (L1 ++ L2)) : Held K F H L2 := by
  induction L1 with
  | nil => exact h
  | cons x L ih => exact ih h.tail
theorem OK.tup {ds : List PyData} {vs : List V} {p : Addr} (hl : ds.length = vs.length) (h : OK K (ds2 ds vs ++ l) H) (hp : H p = none) : OK K ((IT.d (.tuple ds), some (.ref p)) :: l) (upd H p (.tup vs)) := by
  obtain ⟨F, L1, L2, e1, e2, g⟩ := h.split
  have q : DpAll K F vs ds := held_ds (l := l) hl (by rw [List.map_append, e1, e2]) g
  have q2 : DpAll K (upd F p (.tup vs)) vs ds := dpsUp (Ext.up (ext_none g.ext hp)) ds vs q
  exact ⟨_, _, by simp [e2], (g.right.frozen hp).dCons (.tup (.of upd_same) q2)⟩
theorem OK.lstD {ds : List PyData} {vs : List V} {p : Addr} (hl : ds.length = vs.length) (h : OK K (ds2 ds vs ++ l) H) (hp : H p = none) : OK K ((IT.d (.list ds), some (.ref p)) :: l) (upd H p (.lst vs)) := by
  obtain ⟨F, L1, L2, e1, e2, g⟩ := h.split
  have q : DpAll K F vs ds := held_ds (l := l) hl (by rw [List.map_append, e1, e2]) g
  have q2 : DpAll K (upd F p (.lst vs)) vs ds := dpsUp (Ext.up (ext_none g.ext hp)) ds vs q
  exact ⟨_, _, by simp [e2], (g.right.frozen hp).dCons (.lst (.of upd_same) q2)⟩

/-- a list of its own -/
def OL (ds : List PyData) : Own where
  holds := fun K F H v fp => ∃ p vs, v = .ref p ∧ fp = [p] ∧ H p = some (.lst vs) ∧ DpAll K F vs ds
  stay := fun ⟨p, vs, e1, e2, e3, e4⟩ e k => ⟨p, vs, e1, e2, k p (by rw [e2]; simp) _ e3, dpsUp e _ _ e4⟩
theorem Held.oCons {F : Hp} {L : List EF} {v : V} {P : Own} {fp : List Addr} (h : Held K F H L) (hP : P.holds K F H v fp) (nd : fp.Nodup) (dj : ∀ a ∈ fp, a ∉ fpsOf L) (ow : ∀ a ∈ fp, F a = none ∧ ∃ o, H a = some o) : Held K F H (((IT.o P, some v), fp) :: L) := by
  refine ⟨h.ext, fun y hy => ?_, ?_, fun a ha => ?_⟩
  · rcases List.mem_cons.mp hy with e | e
    · subst e; exact ⟨v, rfl, hP⟩
    · exact h.ent y e
  · unfold fpsOf
    rw [List.flatMap_cons]
    exact List.nodup_append.mpr ⟨nd, h.nd, fun a ha b hb z => dj a ha (by rw [z]; exact hb)⟩
  · unfold fpsOf at ha
    rw [List.flatMap_cons] at ha
    rcases List.mem_append.mp ha with ha | ha
    · exact ow a ha
    · exact h.own a ha
theorem OK.lst {ds : List PyData} {vs : List V} {p : Addr} (hl : ds.length = vs.length) (h : OK K (ds2 ds vs ++ l) H) (hp : H p = none) : OK K ((IT.o (OL ds), some (.ref p)) :: l) (upd H p (.lst vs)) := by
  obtain ⟨F, L1, L2, e1, e2, g⟩ := h.split
  have q : DpAll K F vs ds := held_ds (l := l) hl (by rw [List.map_append, e1, e2]) g
  have g2 := g.right.fresh (o := .lst vs) hp
  refine ⟨F, _, by simp [e2], g2.oCons (v := .ref p) (P := OL ds) (fp := [p]) ⟨p, vs, rfl, rfl, upd_same, q⟩ (by simp) (fun a ha hb => ?_) fun a ha => ?_⟩
  · have e : a = p := by simpa using ha
    subst e
    obtain ⟨u, hu⟩ := (g.right.own a hb).2
    rw [hp] at hu
    cases hu
  · have e : a = p := by simpa using ha
    subst e
    exact ⟨ext_none g.ext hp, _, upd_same⟩
/-- an owned thing at the front is changed at addresses of its own -/
theorem Held.change {F : Hp} {L : List EF} {v : V} {P Q : Own} {fp : List Addr} (h : Held K F H (((IT.o P, some v), fp) :: L)) (hQ : Q.holds K F H' v fp) (k : ∀ a o, a ∉ fp → H a = some o → H' a = some o) (t : ∀ a ∈ fp, ∃ o, H' a = some o) :
    Held K F H' (((IT.o Q, some v), fp) :: L) := by
  have nd := h.nd
  unfold fpsOf at nd
  rw [List.flatMap_cons] at nd
  obtain ⟨n1, n2, n3⟩ := List.nodup_append.mp nd
  have own : ∀ a ∈ fp, F a = none := fun a ha => (h.own a (mem_fps.mpr ⟨_, List.mem_cons_self, ha⟩)).1
  refine (h.tail.grow (Ext.refl F) (fun a u q => k a u (fun z => by rw [own a z] at q; cases q) (h.ext a u q)) (fun a ha u hu => k a u (fun z => n3 a z a ha rfl) hu) fun a ha => (h.tail.own a ha).1).oCons hQ n1 (fun a ha hb => n3 a ha a hb rfl) fun a ha => ⟨own a ha, t a ha⟩
end
end Z

namespace Z
open PySem L2

/-! ### the frozen part by name -/
def Fz (K : PySem.W.Frag) (F : Hp) (l : List En) (H : Hp) : Prop := ∃ L, L.map (·.1) = l ∧ Held K F H L
section
variable {K : PySem.W.Frag} {H H' F : Hp} {l l' : List En}
theorem OK.fz (h : OK K l H) : ∃ F, Fz K F l H := let ⟨F, L, e, g⟩ := h; ⟨F, L, e, g⟩
theorem Fz.ok (h : Fz K F l H) : OK K l H := let ⟨L, e, g⟩ := h; ⟨F, L, e, g⟩
theorem Fz.ext (h : Fz K F l H) : Ext F H := let ⟨_, _, g⟩ := h; g.ext
theorem Fz.perm (p : l.Perm l') (h : Fz K F l H) : Fz K F l' H := by
  obtain ⟨L, e, g⟩ := h
  obtain ⟨L', e', q⟩ := lift_perm p e
  exact ⟨L', e', g.perm q⟩
theorem Fz.tail {x : En} (h : Fz K F (x :: l) H) : Fz K F l H := by
  obtain ⟨L, e, g⟩ := h
  cases L with
  | nil => simp at e
  | cons y L => simp at e; exact ⟨L, e.2, g.tail⟩
theorem Fz.at {x : PyData} {v : Option V} (h : Fz K F l H) (m : (IT.d x, v) ∈ l) : ∃ u, v = some u ∧ Dp K F u x := by
  obtain ⟨L, e, g⟩ := h
  subst e
  obtain ⟨fp, hm⟩ := mem_map1 m
  obtain ⟨_, u, e1, hd⟩ := g.ent _ hm
  exact ⟨u, e1, hd⟩
theorem Fz.own {P : Own} {v : Option V} (h : Fz K F l H) (m : (IT.o P, v) ∈ l) : ∃ u fp, v = some u ∧ P.holds K F H u fp := by
  obtain ⟨L, e, g⟩ := h
  subst e
  obtain ⟨fp, hm⟩ := mem_map1 m
  obtain ⟨u, e1, hd⟩ := g.ent _ hm
  exact ⟨u, fp, e1, hd⟩
theorem Fz.add {x : PyData} {v : V} (h : Fz K F l H) (d : Dp K F v x) : Fz K F ((IT.d x, some v) :: l) H := by
  obtain ⟨L, e, g⟩ := h
  exact ⟨(((IT.d x, some v), []) :: L), by rw [List.map_cons, e], g.dCons d⟩
theorem Fz.un {v : Option V} (h : Fz K F l H) : Fz K F ((IT.un, v) :: l) H := by
  obtain ⟨L, e, g⟩ := h
  exact ⟨(((IT.un, v), []) :: L), by rw [List.map_cons, e], g.unCons⟩
theorem Fz.tup {ds : List PyData} {vs : List V} {p : Addr} (h : Fz K F l H) (q : DpAll K F vs ds) (hp : H p = none) : OK K ((IT.d (.tuple ds), some (.ref p)) :: l) (upd H p (.tup vs)) := by
  obtain ⟨L, e, g⟩ := h
  have q2 : DpAll K (upd F p (.tup vs)) vs ds := dpsUp (Ext.up (ext_none g.ext hp)) ds vs q
  exact ⟨_, _, by rw [List.map_cons, e], (g.frozen hp).dCons (v := .ref p) (.tup (.of upd_same) q2)⟩
theorem Fz.lstD {ds : List PyData} {vs : List V} {p : Addr} (h : Fz K F l H) (q : DpAll K F vs ds) (hp : H p = none) : OK K ((IT.d (.list ds), some (.ref p)) :: l) (upd H p (.lst vs)) := by
  obtain ⟨L, e, g⟩ := h
  have q2 : DpAll K (upd F p (.lst vs)) vs ds := dpsUp (Ext.up (ext_none g.ext hp)) ds vs q
  exact ⟨_, _, by rw [List.map_cons, e], (g.frozen hp).dCons (v := .ref p) (.lst (.of upd_same) q2)⟩
/-- a new thing of its own, at one address -/
theorem Fz.newO {P : Own} {o : HO} {p : Addr} (h : Fz K F l H) (hp : H p = none) (hP : P.holds K F (upd H p o) (.ref p) [p]) : OK K ((IT.o P, some (.ref p)) :: l) (upd H p o) := by
  obtain ⟨L, e, g⟩ := h
  refine ⟨F, _, by rw [List.map_cons, e], (g.fresh (o := o) hp).oCons (v := .ref p) (P := P) (fp := [p]) hP (by simp) (fun a ha hb => ?_) fun a ha => ?_⟩
  · have e : a = p := by simpa using ha
    subst e
    obtain ⟨u, hu⟩ := (g.own a hb).2
    rw [hp] at hu
    cases hu
  · have e : a = p := by simpa using ha
    subst e
    exact ⟨ext_none g.ext hp, _, upd_same⟩
theorem Fz.lstO {ds : List PyData} {vs : List V} {p : Addr} (h : Fz K F l H) (q : DpAll K F vs ds) (hp : H p = none) : OK K ((IT.o (OL ds), some (.ref p)) :: l) (upd H p (.lst vs)) :=
  h.newO hp ⟨p, vs, rfl, rfl, upd_same, q⟩
/-- the list at the front is another one -/
theorem Fz.putL {ds ds' : List PyData} {v : V} (h : Fz K F ((IT.o (OL ds), some v) :: l) H) : ∃ p vs, v = .ref p ∧ H p = some (.lst vs) ∧ DpAll K F vs ds ∧
    ∀ ds' vs', DpAll K F vs' ds' → OK K ((IT.o (OL ds'), some v) :: l) (upd H p (.lst vs')) := by
  obtain ⟨L, e, g⟩ := h
  cases L with
  | nil => simp at e
  | cons y L =>
    obtain ⟨y1, fp⟩ := y
    simp at e
    obtain ⟨e1, e2⟩ := e
    subst e1
    obtain ⟨u, e3, p, vs, e4, e5, e6, e7⟩ := g.ent _ List.mem_cons_self
    have e3' : v = u := Option.some.inj e3
    subst e3'
    have e5' : fp = [p] := e5
    subst e5'
    refine ⟨p, vs, e4, e6, e7, fun ds' vs' q => ⟨F, _, ?_, g.change (H' := upd H p (.lst vs')) (Q := OL ds') ⟨p, vs', e4, rfl, upd_same, q⟩ (fun a o ha ho => ?_) fun a ha => ?_⟩⟩
    · rw [List.map_cons, e2]
    · rw [upd_ne (by simpa using ha)]; exact ho
    · have e : a = p := by simpa using ha
      subst e
      exact ⟨_, upd_same⟩
/-- the list at the front is kept for good -/
theorem Fz.freeze {ds : List PyData} {v : V} (h : Fz K F ((IT.o (OL ds), some v) :: l) H) : OK K ((IT.d (.list ds), some v) :: l) H := by
  obtain ⟨L, e, g⟩ := h
  cases L with
  | nil => simp at e
  | cons y L =>
    obtain ⟨y1, fp⟩ := y
    simp at e
    obtain ⟨e1, e2⟩ := e
    subst e1
    obtain ⟨u, e3, p, vs, e4, e5, e6, e7⟩ := g.ent _ List.mem_cons_self
    have e3' : v = u := Option.some.inj e3
    subst e3'
    have e5' : fp = [p] := e5
    subst e5'
    have nF : F p = none := (g.own p (mem_fps.mpr ⟨_, List.mem_cons_self, by simp⟩)).1
    have nd := g.nd
    unfold fpsOf at nd
    rw [List.flatMap_cons] at nd
    obtain ⟨_, _, n3⟩ := List.nodup_append.mp nd
    have g2 : Held K (upd F p (.lst vs)) H L := g.tail.grow (Ext.up nF) (fun a o q => by
      by_cases ea : a = p
      · subst ea; rw [upd_same] at q; cases q; exact e6
      · rw [upd_ne ea] at q; exact g.ext a o q) (fun _ _ _ q => q) fun a ha => by
        rw [upd_ne (fun z => n3 p (by simp) a ha z.symm)]
        exact (g.tail.own a ha).1
    refine ⟨upd F p (.lst vs), (((IT.d (.list ds), some v), []) :: L), by rw [List.map_cons, e2], g2.dCons ?_⟩
    subst e4
    exact .lst (.of upd_same) (dpsUp (Ext.up nF) _ _ e7)
end

/-! ### the state -/
inductive SD where
  | un | d (x : PyData) | r (j : Nat)
def itOf : SD → IT
  | .d x => .d x
  | _ => .un
structure S where
  e : List SD
  R : List Own
def ES (e : List SD) (σ : L2.St) : List En := List.zipWith (fun s v => (itOf s, v)) e σ
def RS (R : List Own) (ρ : List V) : List En := List.zipWith (fun P v => (IT.o P, some v)) R ρ
structure Sat (K : PySem.W.Frag) (s : S) (σ : L2.St) (ρ : List V) (T : List En) (H : Hp) : Prop where
  le : s.e.length = σ.length
  lr : s.R.length = ρ.length
  al : ∀ (i j : Nat), s.e[i]? = some (SD.r j) → ∃ v : V, σ[i]? = some (some v) ∧ ρ[j]? = some v
  ok : OK K (T ++ (ES s.e σ ++ RS s.R ρ)) H
/-- a value that is a reference is the one of the store -/
def VR (r : SD) (ρ : List V) (v : V) : Prop := match r with
  | .r j => ρ[j]? = some v
  | _ => True
theorem VR.mono {r : SD} {ρ ρ' : List V} {v : V} (h : VR r ρ v) (p : ρ <+: ρ') : VR r ρ' v := by
  cases r with
  | r j =>
    obtain ⟨m, rfl⟩ := p
    have h' : ρ[j]? = some v := h
    show (ρ ++ m)[j]? = some v
    rw [List.getElem?_append_left (List.getElem?_eq_some_iff.mp h').1]
    exact h'
  | _ => trivial

theorem es_get {e : List SD} {σ : L2.St} {i : Nat} {a : SD} {v : Option V} (h1 : e[i]? = some a) (h2 : σ[i]? = some v) : (ES e σ)[i]? = some (itOf a, v) := by
  unfold ES
  rw [List.getElem?_zipWith, h1, h2]
theorem rs_get {R : List Own} {ρ : List V} {i : Nat} {P : Own} {v : V} (h1 : R[i]? = some P) (h2 : ρ[i]? = some v) : (RS R ρ)[i]? = some (IT.o P, some v) := by
  unfold RS
  rw [List.getElem?_zipWith, h1, h2]
theorem get_of_len {α β : Type} {l : List α} {m : List β} (h : l.length = m.length) {i : Nat} {a : α} (e : l[i]? = some a) : ∃ b, m[i]? = some b := by
  obtain ⟨hi, _⟩ := List.getElem?_eq_some_iff.mp e
  exact ⟨m[i]'(by omega), List.getElem?_eq_getElem (by omega)⟩
section
variable {K : PySem.W.Frag} {s : S} {σ : L2.St} {ρ : List V} {T : List En} {H : Hp}
theorem Sat.tperm {T' : List En} (p : T.Perm T') (h : Sat K s σ ρ T H) : Sat K s σ ρ T' H := ⟨h.le, h.lr, h.al, h.ok.perm (p.append_right _)⟩
theorem Sat.tdrop {x : En} (h : Sat K s σ ρ (x :: T) H) : Sat K s σ ρ T H := ⟨h.le, h.lr, h.al, OK.tail h.ok⟩
theorem Sat.tdrops {T1 : List En} (h : Sat K s σ ρ (T1 ++ T) H) : Sat K s σ ρ T H := ⟨h.le, h.lr, h.al, OK.right (k := T1) (by rw [← List.append_assoc]; exact h.ok)⟩
theorem Sat.tun {v : Option V} (h : Sat K s σ ρ T H) : Sat K s σ ρ ((IT.un, v) :: T) H := ⟨h.le, h.lr, h.al, h.ok.un⟩
theorem Sat.tflat {x : PyData} {v : V} (f : flat v x) (h : Sat K s σ ρ T H) : Sat K s σ ρ ((IT.d x, some v) :: T) H := ⟨h.le, h.lr, h.al, h.ok.flat f⟩
theorem Sat.slot {i : Nat} {x : PyData} (h : Sat K s σ ρ T H) (e : s.e[i]? = some (SD.d x)) : ∃ v : V, σ[i]? = some (some v) ∧ Sat K s σ ρ ((IT.d x, some v) :: T) H := by
  obtain ⟨ov, h2⟩ := get_of_len h.le e
  have m : (IT.d x, ov) ∈ T ++ (ES s.e σ ++ RS s.R ρ) := List.mem_append_right _ (List.mem_append_left _ (List.mem_of_getElem? (es_get e h2)))
  obtain ⟨u, e1, _, ok⟩ := h.ok.dup m
  subst e1
  exact ⟨u, h2, h.le, h.lr, h.al, ok⟩
/-- a store to a slot, of the value on top -/
theorem Sat.put {i : Nat} {r : SD} {v : V} (hi : i < s.e.length) (vr : VR r ρ v) (h : Sat K s σ ρ ((itOf r, some v) :: T) H) : Sat K ⟨s.e.set i r, s.R⟩ (σ.set i (some v)) ρ T H := by
  have hσ : i < σ.length := by rw [← h.le]; exact hi
  refine ⟨by simp [h.le], h.lr, fun k j e => ?_, ?_⟩
  · by_cases hk : k = i
    · subst hk
      simp only [List.getElem?_set_self hi, Option.some.injEq] at e
      subst e
      exact ⟨v, by rw [List.getElem?_set_self hσ], vr⟩
    · simp only [List.getElem?_set_ne (Ne.symm hk)] at e
      obtain ⟨w, e1, e2⟩ := h.al k j e
      exact ⟨w, by rw [List.getElem?_set_ne (Ne.symm hk)]; exact e1, e2⟩
  · have q : ES (s.e.set i r) (σ.set i (some v)) = (ES s.e σ).set i (itOf r, some v) := by
      unfold ES
      apply List.ext_getElem?
      intro k
      rw [List.getElem?_zipWith]
      by_cases hk : k = i
      · subst hk
        rw [List.getElem?_set_self hi, List.getElem?_set_self hσ, List.getElem?_set_self (by rw [List.length_zipWith]; omega)]
      · rw [List.getElem?_set_ne (Ne.symm hk), List.getElem?_set_ne (Ne.symm hk), List.getElem?_set_ne (Ne.symm hk), List.getElem?_zipWith]
    have hz : i < (ES s.e σ).length := by unfold ES; rw [List.length_zipWith]; omega
    have k : OK K ((T ++ (ES s.e σ ++ RS s.R ρ)).set (T.length + i) (itOf r, some v)) H := OK.set (T.length + i) h.ok
    rw [List.set_append_right _ _ (Nat.le_add_right _ _), Nat.add_sub_cancel_left, List.set_append_left _ _ hz, ← q] at k
    exact k
/-- a new object for the store, from the top -/
theorem Sat.push {P : Own} {v : V} (h : OK K ((IT.o P, some v) :: (T ++ (ES s.e σ ++ RS s.R ρ))) H) (le : s.e.length = σ.length) (lr : s.R.length = ρ.length) (al : ∀ (i j : Nat), s.e[i]? = some (SD.r j) → ∃ v : V, σ[i]? = some (some v) ∧ ρ[j]? = some v) :
    Sat K ⟨s.e, s.R ++ [P]⟩ σ (ρ ++ [v]) T H := by
  refine ⟨le, by simp [lr], fun i j e => ?_, ?_⟩
  · obtain ⟨w, e1, e2⟩ := al i j e
    exact ⟨w, e1, by rw [List.getElem?_append_left (List.getElem?_eq_some_iff.mp e2).1]; exact e2⟩
  · have q : RS (s.R ++ [P]) (ρ ++ [v]) = RS s.R ρ ++ [(IT.o P, some v)] := by
      unfold RS
      rw [List.zipWith_append lr]
      rfl
    rw [show (⟨s.e, s.R ++ [P]⟩ : S).R = s.R ++ [P] from rfl, q]
    refine h.perm ?_
    show ((IT.o P, some v) :: (T ++ (ES s.e σ ++ RS s.R ρ))).Perm (T ++ (ES s.e σ ++ (RS s.R ρ ++ [(IT.o P, some v)])))
    rw [← List.append_assoc, ← List.append_assoc, ← List.append_assoc]
    exact (List.perm_append_singleton _ _).symm
/-- the j-th object of the store to the front -/
theorem rs_set {R : List Own} {ρ : List V} (lr : R.length = ρ.length) {j : Nat} {P : Own} {v : V} (e : ρ[j]? = some v) : RS (R.set j P) ρ = (RS R ρ).set j (IT.o P, some v) := by
  obtain ⟨hj, ej⟩ := List.getElem?_eq_some_iff.mp e
  unfold RS
  apply List.ext_getElem?
  intro k
  rw [List.getElem?_zipWith]
  by_cases hk : k = j
  · subst hk
    rw [List.getElem?_set_self (by omega), e, List.getElem?_set_self (by simp [List.length_zipWith]; omega)]
  · rw [List.getElem?_set_ne (Ne.symm hk), List.getElem?_set_ne (Ne.symm hk), List.getElem?_zipWith]
theorem Sat.obj {j : Nat} {P : Own} (h : Sat K s σ ρ T H) (e : s.R[j]? = some P) : ∃ v, ρ[j]? = some v ∧
    OK K ((IT.o P, some v) :: (T ++ (ES s.e σ ++ (RS s.R ρ).set j (IT.un, some v)))) H ∧
    ∀ (H' : Hp) (Q : Own), OK K ((IT.o Q, some v) :: (T ++ (ES s.e σ ++ (RS s.R ρ).set j (IT.un, some v)))) H' → Sat K ⟨s.e, s.R.set j Q⟩ σ ρ T H' := by
  obtain ⟨v, h2⟩ := get_of_len h.lr e
  have g := rs_get e h2
  have hz : j < (RS s.R ρ).length := (List.getElem?_eq_some_iff.mp g).1
  have n1 : ∀ x : En, (T ++ (ES s.e σ ++ RS s.R ρ)).set (T.length + ((ES s.e σ).length + j)) x = T ++ (ES s.e σ ++ (RS s.R ρ).set j x) := fun x => by
    rw [List.set_append_right _ _ (Nat.le_add_right _ _), Nat.add_sub_cancel_left, List.set_append_right _ _ (Nat.le_add_right _ _), Nat.add_sub_cancel_left]
  refine ⟨v, h2, ?_, fun H' Q ok => ?_⟩
  · rw [← n1]
    refine h.ok.out ?_
    rw [List.getElem?_append_right (Nat.le_add_right _ _), Nat.add_sub_cancel_left, List.getElem?_append_right (Nat.le_add_right _ _), Nat.add_sub_cancel_left]
    exact g
  · refine ⟨h.le, by simpa using h.lr, h.al, ?_⟩
    have k := ok.set (T.length + ((ES s.e σ).length + j))
    rw [← n1, List.set_set, n1, ← rs_set h.lr h2] at k
    exact k
end
end Z

namespace Z
open PySem L2

/-! ### judgements -/
def tE (K : PySem.W.Frag) (s : S) (r : SD) (s' : S) : TE := fun σ H Q => ∃ T ρ, Sat K s σ ρ T H ∧ ∀ v ρ' H', ρ <+: ρ' → VR r ρ' v → Sat K s' σ ρ' ((itOf r, some v) :: T) H' → Q v H'
def ZE (X : Cx) (ex : Expr) (s : S) (r : SD) (s' : S) : Prop := PE X ex (tE X.K s r s')
def tT (K : PySem.W.Frag) (s : S) (R : Bool → S → Prop) : TT := fun σ H Q => ∃ T ρ, Sat K s σ ρ T H ∧ ∀ b s' ρ' H', R b s' → ρ <+: ρ' → Sat K s' σ ρ' T H' → Q b H'
def ZT (X : Cx) (ex : Expr) (s : S) (R : Bool → S → Prop) : Prop := PT X ex (tT X.K s R)
def ZW (X : Cx) (ex : Expr) (s : S) (R : Bool → S → Prop) : Prop := PW X ex (tT X.K s R)
/-- just this answer -/
def Is (b : Bool) (s : S) : Bool → S → Prop := fun c t => c = b ∧ t = s
def its (rs : List SD) (vs : List V) : List En := List.zipWith (fun r v => (itOf r, some v)) rs vs
def VRs (rs : List SD) (ρ : List V) (vs : List V) : Prop := rs.length = vs.length ∧ ∀ (i : Nat) (r : SD) (v : V), rs[i]? = some r → vs[i]? = some v → VR r ρ v
def tA (K : PySem.W.Frag) (s : S) (rs : List SD) (s' : S) : TA := fun σ H Q => ∃ T ρ, Sat K s σ ρ T H ∧ ∀ vs ρ' H', ρ <+: ρ' → VRs rs ρ' vs → Sat K s' σ ρ' (its rs vs ++ T) H' → Q vs H'
def ZA (X : Cx) (es : List Expr) (s : S) (rs : List SD) (s' : S) : Prop := PA X es (tA X.K s rs s')
structure Po where
  b : Nat
  nx : S → Prop
  rt : SD → S → Prop
  bk : S → Prop := fun _ => False
  ct : S → Prop := fun _ => False
structure Meets (K : PySem.W.Frag) (P : Po) (ρ : List V) (T : List En) (D : Ends) : Prop where
  nx : ∀ s' σ' ρ' H', P.nx s' → ρ <+: ρ' → Sat K s' σ' ρ' T H' → D.nx σ' H'
  rt : ∀ r s' σ' ρ' H' v, P.rt r s' → ρ <+: ρ' → VR r ρ' v → Sat K s' σ' ρ' ((itOf r, some v) :: T) H' → D.rt v H'
  bk : ∀ s' σ' ρ' H', P.bk s' → ρ <+: ρ' → Sat K s' σ' ρ' T H' → D.bk σ' H'
  ct : ∀ s' σ' ρ' H', P.ct s' → ρ <+: ρ' → Sat K s' σ' ρ' T H' → D.ct σ' H'
def tS (K : PySem.W.Frag) (M : S → Prop) (P : Po) : TS := fun D σ H => ∃ s T ρ, M s ∧ P.b ≤ ρ.length ∧ Sat K s σ ρ T H ∧ Meets K P (ρ.take P.b) T D
def ZS (X : Cx) (st : Stmt) (s : S) (P : Po) : Prop := PS X st (tS X.K (fun t => t = s) P)
def ZSs (X : Cx) (sts : List Stmt) (s : S) (P : Po) : Prop := PSs X sts (tS X.K (fun t => t = s) P)

section
variable {X : Cx} {e a b c : Expr} {es : List Expr} {s s' s1 s2 s3 : S} {r r1 r2 : SD} {rs : List SD} {pos : Pos}
theorem PE.imp {t t' : TE} (h : PE X e t) (i : ∀ σ H Q, t' σ H Q → t σ H Q) : PE X e t' := ⟨fun pins s σ H Q I q => h.run pins s σ H Q I (i σ H Q q)⟩
theorem PT.imp {t t' : TT} (h : PT X e t) (i : ∀ σ H Q, t' σ H Q → t σ H Q) : PT X e t' := ⟨fun pins s σ H Q I q => h.run pins s σ H Q I (i σ H Q q)⟩
theorem PW.imp {t t' : TT} (h : PW X e t) (i : ∀ σ H Q, t' σ H Q → t σ H Q) : PW X e t' := ⟨fun w pins s σ H Q I q => h.run w pins s σ H Q I (i σ H Q q)⟩
theorem PA.imp {t t' : TA} (h : PA X es t) (i : ∀ σ H Q, t' σ H Q → t σ H Q) : PA X es t' := ⟨fun pos pins s σ H Q I q => h.run pos pins s σ H Q I (i σ H Q q)⟩
theorem PS.imp {st : Stmt} {t t' : TS} (h : PS X st t) (i : ∀ D σ H, t' D σ H → t D σ H) : PS X st t' := ⟨fun pins s σ H D I q => h.run pins s σ H D I (i D σ H q)⟩
theorem PSs.imp {st : List Stmt} {t t' : TS} (h : PSs X st t) (i : ∀ D σ H, t' D σ H → t D σ H) : PSs X st t' := ⟨fun pins s σ H D I q => h.run pins s σ H D I (i D σ H q)⟩
theorem pre_refl (ρ : List V) : ρ <+: ρ := List.prefix_rfl
/-- the families -/
theorem zss_all {sts : List Stmt} {M : S → Prop} {P : Po} (h : ∀ t, M t → ZSs X sts t P) : PSs X sts (tS X.K M P) :=
  ⟨fun pins sh σ H D I ⟨t, T, ρ, m, hb, g, q⟩ => (h t m).run pins sh σ H D I ⟨t, T, ρ, rfl, hb, g, q⟩⟩
theorem ZE.to (h : ZE X e s r s') (e1 : r = r1) (e2 : s' = s1) : ZE X e s r1 s1 := by subst e1 e2; exact h
theorem ZT.imp {R R' : Bool → S → Prop} (h : ZT X e s R) (i : ∀ b t, R b t → R' b t) : ZT X e s R' :=
  PT.imp h fun σ H Q ⟨T, ρ, g, q⟩ => ⟨T, ρ, g, fun b t ρ' H' hr p g' => q b t ρ' H' (i b t hr) p g'⟩
theorem ZW.imp {R R' : Bool → S → Prop} (h : ZW X e s R) (i : ∀ b t, R b t → R' b t) : ZW X e s R' :=
  PW.imp h fun σ H Q ⟨T, ρ, g, q⟩ => ⟨T, ρ, g, fun b t ρ' H' hr p g' => q b t ρ' H' (i b t hr) p g'⟩
theorem ZW.t {R : Bool → S → Prop} (h : ZW X e s R) : ZT X e s R := PW.pt h

/-! ### names, constants -/
theorem ze_var (i : Nat) {x : Str} (hr : s.e[i]? = some r) (nu : r ≠ .un := by intro h; cases h) (hN : X.N[i]? = some x := by rfl) (hv : Vis X.env.scope x := by first | exact Or.inl rfl | exact Or.inr (Or.inl rfl) | exact Or.inr (Or.inr rfl))
    (hd : (x == ("__debug__" : Str)) = false := by decide) (hcd : (x == ("__classdict__" : Str)) = false := by decide) : ZE X (.Name x pos) s r s := by
  refine PE.imp (pe_var hN hv hd hcd) fun σ H Q ⟨T, ρ, g, q⟩ => ?_
  cases r with
  | un => exact absurd rfl nu
  | d x =>
    obtain ⟨v, e1, g'⟩ := g.slot hr
    exact ⟨v, e1, q v ρ H (pre_refl ρ) trivial g'⟩
  | r j =>
    obtain ⟨v, e1, e2⟩ := g.al i j hr
    exact ⟨v, e1, q v ρ H (pre_refl ρ) e2 g.tun⟩
theorem ze_int {i : Int} {j : Nat} : ZE X (.Constant (.int i) j pos) s (.d (.int i)) s := PE.imp pe_int fun σ H Q ⟨T, ρ, g, q⟩ => q _ ρ H (pre_refl ρ) trivial (g.tflat (show flat (.int i) (.int i) from rfl))
theorem ze_bl {i : Bool} {j : Nat} : ZE X (.Constant (.bool i) j pos) s (.d (.bool i)) s := PE.imp pe_bl fun σ H Q ⟨T, ρ, g, q⟩ => q _ ρ H (pre_refl ρ) trivial (g.tflat (show flat (.bl i) (.bool i) from rfl))
theorem ze_str {i : Str} {j : Nat} : ZE X (.Constant (.str i) j pos) s (.d (.str i)) s := PE.imp pe_str fun σ H Q ⟨T, ρ, g, q⟩ => q _ ρ H (pre_refl ρ) trivial (g.tflat (show flat (.str i) (.str i) from rfl))
theorem ze_non {j : Nat} : ZE X (.Constant .none j pos) s (.d .none) s := PE.imp pe_non fun σ H Q ⟨T, ρ, g, q⟩ => q _ ρ H (pre_refl ρ) trivial (g.tflat (show flat .non .none from trivial))
theorem ze_glob {x : Str} {v : V} {u : Value} {d : PyData} (hm : X.mg x = some u) (rv : RelV v u) (f : flat v d) (hg : Gl X x := by rfl) (hd : (x == ("__debug__" : Str)) = false := by decide) : ZE X (.Name x pos) s (.d d) s :=
  PE.imp (pe_glob hg hm rv hd) fun σ H Q ⟨T, ρ, g, q⟩ => q _ ρ H (pre_refl ρ) trivial (g.tflat f)

/-! ### argument lists, displays -/
theorem za_nil : ZA X [] s [] s := PA.imp pa_nil fun σ H Q ⟨T, ρ, g, q⟩ => q [] ρ H (pre_refl ρ) ⟨rfl, fun _ _ _ h => by simp at h⟩ g
theorem za_cons (h1 : ZE X e s r s1) (h2 : ZA X es s1 rs s2) (hs : starEach (e :: es) X.env = (false, eval e X.env) :: starEach es X.env := by rfl) : ZA X (e :: es) s (r :: rs) s2 := by
  refine PA.imp (pa_cons h1 h2 hs) fun σ H Q ⟨T, ρ, g, q⟩ => ?_
  refine ⟨T, ρ, g, fun v ρ1 H1 p1 vr g1 => ⟨(itOf r, some v) :: T, ρ1, g1, fun vs ρ2 H2 p2 vrs g2 => q (v :: vs) ρ2 H2 (p1.trans p2) ⟨by simp [vrs.1], fun i r' v' e1 e2 => ?_⟩ ?_⟩⟩
  · cases i with
    | zero => simp at e1 e2; subst e1 e2; exact vr.mono p2
    | succ i => exact vrs.2 i r' v' (by simpa using e1) (by simpa using e2)
  · refine g2.tperm ?_
    exact List.perm_middle
theorem its_d : ∀ {ds : List PyData} {vs : List V}, its (ds.map .d) vs = ds2 ds vs
  | [], _ => rfl
  | _ :: _, [] => rfl
  | d :: ds, v :: vs => by
    show _ :: its (ds.map .d) vs = _ :: ds2 ds vs
    rw [its_d]; rfl
theorem fz_ds {K : PySem.W.Frag} {F H : Hp} : ∀ {ds : List PyData} {vs : List V} {l : List En}, ds.length = vs.length → Fz K F (ds2 ds vs ++ l) H → DpAll K F vs ds := fun hl ⟨L, e, g⟩ => held_ds hl e g
theorem ze_tup {ds : List PyData} {k : Nat} (h : ZA X es s (ds.map .d) s') (hz : ds.length ≤ sizeLine := by exact Nat.le_of_ble_eq_true rfl) : ZE X (.Tuple es k pos) s (.d (.tuple ds)) s' := by
  refine PE.imp (pe_tup h) fun σ H Q ⟨T, ρ, g, q⟩ => ?_
  refine ⟨T, ρ, g, fun vs ρ1 H1 p1 vrs g1 => ?_⟩
  have hl : ds.length = vs.length := by have := vrs.1; simpa using this
  refine ⟨by omega, fun p hp => q _ ρ1 _ p1 trivial ?_⟩
  rw [its_d] at g1
  have ok : OK X.K (ds2 ds vs ++ (T ++ (ES s'.e σ ++ RS s'.R ρ1))) H1 := by rw [← List.append_assoc]; exact g1.ok
  obtain ⟨F, f⟩ := ok.fz
  have t := f.tup (fz_ds hl f) hp
  exact ⟨g1.le, g1.lr, g1.al, (t.perm (List.perm_middle.symm)).right⟩
/-- a list, kept for good -/
theorem ze_lstD {ds : List PyData} (h : ZA X es s (ds.map .d) s') (hz : ds.length ≤ sizeLine := by exact Nat.le_of_ble_eq_true rfl) : ZE X (.List es pos) s (.d (.list ds)) s' := by
  refine PE.imp (pe_lst h) fun σ H Q ⟨T, ρ, g, q⟩ => ?_
  refine ⟨T, ρ, g, fun vs ρ1 H1 p1 vrs g1 => ?_⟩
  have hl : ds.length = vs.length := by have := vrs.1; simpa using this
  refine ⟨by omega, fun p hp => q _ ρ1 _ p1 trivial ?_⟩
  rw [its_d] at g1
  have ok : OK X.K (ds2 ds vs ++ (T ++ (ES s'.e σ ++ RS s'.R ρ1))) H1 := by rw [← List.append_assoc]; exact g1.ok
  obtain ⟨F, f⟩ := ok.fz
  have t := f.lstD (fz_ds hl f) hp
  exact ⟨g1.le, g1.lr, g1.al, (t.perm (List.perm_middle.symm)).right⟩
/-- a list of its own -/
theorem ze_lst {ds : List PyData} (h : ZA X es s (ds.map .d) s') (hz : ds.length ≤ sizeLine := by exact Nat.le_of_ble_eq_true rfl) : ZE X (.List es pos) s (.r s'.R.length) ⟨s'.e, s'.R ++ [OL ds]⟩ := by
  refine PE.imp (pe_lst h) fun σ H Q ⟨T, ρ, g, q⟩ => ?_
  refine ⟨T, ρ, g, fun vs ρ1 H1 p1 vrs g1 => ?_⟩
  have hl : ds.length = vs.length := by have := vrs.1; simpa using this
  refine ⟨by omega, fun p hp => q _ (ρ1 ++ [.ref p]) _ (p1.trans (List.prefix_append _ _)) ?_ (Sat.tun ?_)⟩
  · show (ρ1 ++ [V.ref p])[s'.R.length]? = some (.ref p)
    rw [g1.lr, List.getElem?_append_right (Nat.le_refl _), Nat.sub_self]
    rfl
  · rw [its_d] at g1
    have ok : OK X.K (ds2 ds vs ++ (T ++ (ES s'.e σ ++ RS s'.R ρ1))) H1 := by rw [← List.append_assoc]; exact g1.ok
    obtain ⟨F, f⟩ := ok.fz
    have t := f.lstO (fz_ds hl f) hp
    exact Sat.push ((t.perm (List.perm_middle.symm)).right) g1.le g1.lr g1.al

/-! ### what a value is seen as -/
inductive Vw (s : S) : SD → PyData → Prop
  | d (x : PyData) : Vw s (.d x) x
  | r {j : Nat} {ds : List PyData} : s.R[j]? = some (OL ds) → Vw s (.r j) (.list ds)
section
variable {K : PySem.W.Frag} {σ : L2.St} {ρ : List V} {T : List En} {H : Hp} {v : V} {x : PyData}
/-- .. as it stands in the heap -/
theorem Sat.see (g : Sat K s σ ρ T H) (m : (itOf r, some v) ∈ T) (vr : VR r ρ v) (w : Vw s r x) : Dp K H v x := by
  cases w with
  | d x =>
    obtain ⟨u, e1, h, _⟩ := g.ok.dup (List.mem_append_left _ m)
    cases e1
    exact h
  | r e =>
    rename_i j ds
    obtain ⟨w, e2, ok, _⟩ := g.obj e
    have ev : w = v := Option.some.inj (e2.symm.trans vr)
    subst ev
    obtain ⟨F, f⟩ := ok.fz
    obtain ⟨u, fp, e3, p, vs, e4, e5, e6, e7⟩ := f.own List.mem_cons_self
    cases e3
    subst e4
    exact .lst (.of e6) (dpsUp f.ext _ _ e7)
/-- the items of a list: they are kept for good -/
theorem Sat.seeL {ds : List PyData} (g : Sat K s σ ρ T H) (m : (itOf r, some v) ∈ T) (vr : VR r ρ v) (w : Vw s r (.list ds)) :
    ∃ F p vs, v = .ref p ∧ SqL K H p vs ∧ DpAll K F vs ds ∧ Fz K F (T ++ (ES s.e σ ++ RS s.R ρ)) H := by
  obtain ⟨F, f⟩ := g.ok.fz
  cases w with
  | d x =>
    obtain ⟨u, e1, h⟩ := f.at (List.mem_append_left _ m)
    cases e1
    cases h with
    | lst hs ha => exact ⟨F, _, _, rfl, f.ext.l hs, ha, f⟩
  | r e =>
    rename_i j
    obtain ⟨w, e2⟩ := get_of_len g.lr e
    have ev : w = v := Option.some.inj (e2.symm.trans vr)
    subst ev
    have m2 : (IT.o (OL ds), some w) ∈ T ++ (ES s.e σ ++ RS s.R ρ) := List.mem_append_right _ (List.mem_append_right _ (List.mem_of_getElem? (rs_get e e2)))
    obtain ⟨u, fp, e3, p, vs, e4, e5, e6, e7⟩ := f.own m2
    cases e3
    exact ⟨F, p, vs, e4, .of e6, e7, f⟩
theorem Sat.seeT {ds : List PyData} (g : Sat K s σ ρ T H) (m : (itOf r, some v) ∈ T) (w : Vw s r (.tuple ds)) :
    ∃ F p vs, v = .ref p ∧ SqT K H p vs ∧ DpAll K F vs ds ∧ Fz K F (T ++ (ES s.e σ ++ RS s.R ρ)) H := by
  obtain ⟨F, f⟩ := g.ok.fz
  cases w with
  | d x =>
    obtain ⟨u, e1, h⟩ := f.at (List.mem_append_left _ m)
    cases e1
    cases h with
    | tup hs ha => exact ⟨F, _, _, rfl, f.ext.t hs, ha, f⟩
theorem Sat.of (g : Sat K s σ ρ T H) {T' : List En} {H' : Hp} (h : OK K (T' ++ (ES s.e σ ++ RS s.R ρ)) H') : Sat K s σ ρ T' H' := ⟨g.le, g.lr, g.al, h⟩
/-- two at the top of T go -/
theorem Sat.out2 {x y z : En} (g : Sat K s σ ρ (x :: y :: T) H) {H' : Hp} (h : OK K (z :: (x :: y :: T ++ (ES s.e σ ++ RS s.R ρ))) H') : Sat K s σ ρ (z :: T) H' :=
  Sat.of g ((h.perm ((List.perm_append_comm (l₁ := [z]) (l₂ := [x, y])).append_right (T ++ (ES s.e σ ++ RS s.R ρ)))).right (k := [x, y]))
theorem Sat.out1 {x z : En} (g : Sat K s σ ρ (x :: T) H) {H' : Hp} (h : OK K (z :: (x :: T ++ (ES s.e σ ++ RS s.R ρ))) H') : Sat K s σ ρ (z :: T) H' :=
  Sat.of g ((h.perm (List.Perm.swap x z _)).right (k := [x]))
end

/-! ### operations by what they do -/
/-- two values in, one out -/
def Bi (K : PySem.W.Frag) (q : R2) (s : S) (a b z : SD) (s' : S) : Prop := ∀ u w T σ ρ H Q, Sat K s σ ρ ((itOf b, some w) :: (itOf a, some u) :: T) H → VR a ρ u → VR b ρ w →
  (∀ v ρ' H', ρ <+: ρ' → VR z ρ' v → Sat K s' σ ρ' ((itOf z, some v) :: T) H' → Q v H') → q u w H Q
def Un1 (K : PySem.W.Frag) (q : V → Hp → VK → Prop) (s : S) (a z : SD) (s' : S) : Prop := ∀ u T σ ρ H Q, Sat K s σ ρ ((itOf a, some u) :: T) H → VR a ρ u →
  (∀ v ρ' H', ρ <+: ρ' → VR z ρ' v → Sat K s' σ ρ' ((itOf z, some v) :: T) H' → Q v H') → q u H Q
def Ca (K : PySem.W.Frag) (q : List V → Hp → VK → Prop) (s : S) (as : List SD) (z : SD) (s' : S) : Prop := ∀ us T σ ρ H Q, Sat K s σ ρ (its as us ++ T) H → VRs as ρ us →
  (∀ v ρ' H', ρ <+: ρ' → VR z ρ' v → Sat K s' σ ρ' ((itOf z, some v) :: T) H' → Q v H') → q us H Q
variable {z : SD}
theorem bi_run {q : R2} {ra rb : SD} (hq : Bi X.K q s2 ra rb z s3) : ∀ σ H Q, tE X.K s z s3 σ H Q → tOp q (tE X.K s ra s1) (tE X.K s1 rb s2) σ H Q := fun σ H Q ⟨T, ρ, g, k⟩ =>
  ⟨T, ρ, g, fun u ρ1 H1 p1 vr1 g1 => ⟨_, ρ1, g1, fun w ρ2 H2 p2 vr2 g2 => hq u w T σ ρ2 H2 Q g2 (vr1.mono p2) vr2 fun v ρ3 H3 p3 vr3 g3 => k v ρ3 H3 ((p1.trans p2).trans p3) vr3 g3⟩⟩
theorem ze_op {op : Operator} {q : R2} {ra rb : SD} (ho : OpR X (binaryOp op) q) (ha : ZE X a s ra s1) (hb : ZE X b s1 rb s2) (hq : Bi X.K q s2 ra rb z s3) : ZE X (.BinOp a op b pos) s z s3 := PE.imp (pe_op ho ha hb) (bi_run hq)
theorem ze_un {op : UnaryOp} {q : V → Hp → VK → Prop} {ra : SD} (ho : UnR X (unaryOp op) q) (ha : ZE X a s ra s1) (hq : Un1 X.K q s1 ra z s3) : ZE X (.UnaryOp op a pos) s z s3 :=
  PE.imp (pe_un ho ha) fun σ H Q ⟨T, ρ, g, k⟩ => ⟨T, ρ, g, fun u ρ1 H1 p1 vr1 g1 => hq u T σ ρ1 H1 Q g1 vr1 fun v ρ3 H3 p3 vr3 g3 => k v ρ3 H3 (p1.trans p3) vr3 g3⟩
theorem ze_cmp {op : CmpOp} {q : R2} {ra rb : SD} (ho : OpR X (compareOp op) q) (ha : ZE X a s ra s1) (hb : ZE X b s1 rb s2) (hq : Bi X.K q s2 ra rb z s3) (hm : behindInMarks op b = false) : ZE X (.Compare a [op] [b] pos) s z s3 := PE.imp (pe_cmpR ho ha hb hm) (bi_run hq)
theorem zt_cmp {op : CmpOp} {q : R2} {ra rb : SD} {k : Bool} (ho : OpR X (compareOp op) q) (ha : ZE X a s ra s1) (hb : ZE X b s1 rb s2) (hq : Bi X.K q s2 ra rb (.d (.bool k)) s3) (hm : behindInMarks op b = false) : ZT X (.Compare a [op] [b] pos) s (Is k s3) := by
  refine PT.imp (pt_cmpR ho ha hb hm) fun σ H Q ⟨T, ρ, g, q'⟩ => ?_
  refine bi_run (z := .d (.bool k)) hq σ H _ ⟨T, ρ, g, fun v ρ' H' p vr g' => ?_⟩
  obtain ⟨u, e1, h, _⟩ := g'.ok.dup (x := .bool k) (List.mem_append_left _ List.mem_cons_self)
  cases e1
  cases h
  exact ⟨k, rfl, q' k s3 ρ' H' ⟨rfl, rfl⟩ p g'.tdrop⟩
/-- scalars -/
theorem see_int {K : PySem.W.Frag} {σ : L2.St} {ρ : List V} {T : List En} {H : Hp} {v : V} {i : Int} (g : Sat K s σ ρ T H) (m : (itOf (.d (.int i)), some v) ∈ T) : v = .int i := by
  have h := g.see (r := .d (.int i)) m trivial (.d _)
  cases h
  rfl
theorem bi_int {K : PySem.W.Frag} {f : Int → Int → V} {i j : Int} {zd : PyData} (hz : flat (f i j) zd) : Bi K (rI0 f) s (.d (.int i)) (.d (.int j)) (.d zd) s := fun u w T σ ρ H Q g _ _ k => by
  have e1 := see_int (i := j) (v := w) g List.mem_cons_self
  have e2 := see_int (i := i) (v := u) g (List.mem_cons_of_mem _ List.mem_cons_self)
  subst e1 e2
  exact ⟨i, j, rfl, rfl, k _ ρ H (pre_refl ρ) trivial (g.tdrop.tdrop.tflat hz)⟩
theorem bi_intC {K : PySem.W.Frag} {C : Int → Int → Prop} {f : Int → Int → V} {i j : Int} {zd : PyData} (hc : C i j) (hz : flat (f i j) zd) : Bi K (rI C f) s (.d (.int i)) (.d (.int j)) (.d zd) s := fun u w T σ ρ H Q g _ _ k => by
  have e1 := see_int (i := j) (v := w) g List.mem_cons_self
  have e2 := see_int (i := i) (v := u) g (List.mem_cons_of_mem _ List.mem_cons_self)
  subst e1 e2
  exact ⟨i, j, rfl, rfl, hc, k _ ρ H (pre_refl ρ) trivial (g.tdrop.tdrop.tflat hz)⟩
variable {i j : Int}
theorem ze_add (ha : ZE X a s (.d (.int i)) s1) (hb : ZE X b s1 (.d (.int j)) s2) : ZE X (.BinOp a .Add b pos) s (.d (.int (i + j))) s2 := ze_op op_add ha hb (bi_int (show flat (.int _) (.int _) from rfl))
theorem ze_sub (ha : ZE X a s (.d (.int i)) s1) (hb : ZE X b s1 (.d (.int j)) s2) : ZE X (.BinOp a .Sub b pos) s (.d (.int (i - j))) s2 := ze_op op_sub ha hb (bi_int (show flat (.int _) (.int _) from rfl))
theorem ze_mulW (hc : CMulW i j) (ha : ZE X a s (.d (.int i)) s1) (hb : ZE X b s1 (.d (.int j)) s2) : ZE X (.BinOp a .Mult b pos) s (.d (.int (i * j))) s2 := ze_op op_mulW ha hb (bi_intC hc (show flat (.int _) (.int _) from rfl))
theorem ze_mul (hc : CMul i j) (ha : ZE X a s (.d (.int i)) s1) (hb : ZE X b s1 (.d (.int j)) s2) : ZE X (.BinOp a .Mult b pos) s (.d (.int (i * j))) s2 := ze_op op_mul ha hb (bi_intC hc (show flat (.int _) (.int _) from rfl))
theorem ze_divW (hc : CDivW i j) (ha : ZE X a s (.d (.int i)) s1) (hb : ZE X b s1 (.d (.int j)) s2) : ZE X (.BinOp a .FloorDiv b pos) s (.d (.int (i / j))) s2 := ze_op op_fdivW ha hb (bi_intC hc (show flat (.int _) (.int _) from rfl))
theorem ze_div (hc : CDiv i j) (ha : ZE X a s (.d (.int i)) s1) (hb : ZE X b s1 (.d (.int j)) s2) : ZE X (.BinOp a .FloorDiv b pos) s (.d (.int (i / j))) s2 := ze_op op_fdiv ha hb (bi_intC hc (show flat (.int _) (.int _) from rfl))
theorem ze_mod (hc : 0 < j) (ha : ZE X a s (.d (.int i)) s1) (hb : ZE X b s1 (.d (.int j)) s2) : ZE X (.BinOp a .Mod b pos) s (.d (.int (i % j))) s2 := ze_op op_mod ha hb (bi_intC hc (show flat (.int _) (.int _) from rfl))
theorem ze_xor (ha : ZE X a s (.d (.int i)) s1) (hb : ZE X b s1 (.d (.int j)) s2) : ZE X (.BinOp a .BitXor b pos) s (.d (.int (Builtin.bitXor i j))) s2 := ze_op op_xor ha hb (bi_int (show flat (.int _) (.int _) from rfl))
theorem ze_neg (ha : ZE X a s (.d (.int i)) s1) : ZE X (.UnaryOp .USub a pos) s (.d (.int (-i))) s1 := ze_un un_neg ha fun u T σ ρ H Q g _ k => by
  have e2 := see_int (i := i) (v := u) g List.mem_cons_self
  subst e2
  exact ⟨i, rfl, k _ ρ H (pre_refl ρ) trivial (g.tdrop.tflat (show flat (.int _) (.int _) from rfl))⟩
theorem ze_lt (ha : ZE X a s (.d (.int i)) s1) (hb : ZE X b s1 (.d (.int j)) s2) : ZE X (.Compare a [.Lt] [b] pos) s (.d (.bool (decide (i < j)))) s2 := ze_cmp op_lt ha hb (bi_int (show flat (.bl _) (.bool _) from rfl)) (nomark _)
theorem ze_le (ha : ZE X a s (.d (.int i)) s1) (hb : ZE X b s1 (.d (.int j)) s2) : ZE X (.Compare a [.LtE] [b] pos) s (.d (.bool (decide (i ≤ j)))) s2 := ze_cmp op_le ha hb (bi_int (show flat (.bl _) (.bool _) from rfl)) (nomark _)
theorem ze_gt (ha : ZE X a s (.d (.int i)) s1) (hb : ZE X b s1 (.d (.int j)) s2) : ZE X (.Compare a [.Gt] [b] pos) s (.d (.bool (decide (j < i)))) s2 := ze_cmp op_gt ha hb (bi_int (show flat (.bl _) (.bool _) from rfl)) (nomark _)
theorem ze_ge (ha : ZE X a s (.d (.int i)) s1) (hb : ZE X b s1 (.d (.int j)) s2) : ZE X (.Compare a [.GtE] [b] pos) s (.d (.bool (decide (j ≤ i)))) s2 := ze_cmp op_ge ha hb (bi_int (show flat (.bl _) (.bool _) from rfl)) (nomark _)
theorem zt_lt (ha : ZE X a s (.d (.int i)) s1) (hb : ZE X b s1 (.d (.int j)) s2) : ZT X (.Compare a [.Lt] [b] pos) s (Is (decide (i < j)) s2) := zt_cmp op_lt ha hb (bi_int (show flat (.bl _) (.bool _) from rfl)) (nomark _)
theorem zt_le (ha : ZE X a s (.d (.int i)) s1) (hb : ZE X b s1 (.d (.int j)) s2) : ZT X (.Compare a [.LtE] [b] pos) s (Is (decide (i ≤ j)) s2) := zt_cmp op_le ha hb (bi_int (show flat (.bl _) (.bool _) from rfl)) (nomark _)
theorem zt_gt (ha : ZE X a s (.d (.int i)) s1) (hb : ZE X b s1 (.d (.int j)) s2) : ZT X (.Compare a [.Gt] [b] pos) s (Is (decide (j < i)) s2) := zt_cmp op_gt ha hb (bi_int (show flat (.bl _) (.bool _) from rfl)) (nomark _)
theorem zt_ge (ha : ZE X a s (.d (.int i)) s1) (hb : ZE X b s1 (.d (.int j)) s2) : ZT X (.Compare a [.GtE] [b] pos) s (Is (decide (j ≤ i)) s2) := zt_cmp op_ge ha hb (bi_int (show flat (.bl _) (.bool _) from rfl)) (nomark _)
/-- == and != of data of any depth -/
theorem bi_eq {K : PySem.W.Frag} {x y : PyData} {ra rb : SD} (wa : Vw s ra x) (wb : Vw s rb y) (hx : SeqAt.shaped x = true) (hy : SeqAt.shaped y = true) : Bi K (rEqD K) s ra rb (.d (.bool (PyData.eqv x y))) s := fun u w T σ ρ H Q g va vb k =>
  ⟨x, y, g.see (List.mem_cons_of_mem _ List.mem_cons_self) va wa, g.see List.mem_cons_self vb wb, hx, hy, k _ ρ H (pre_refl ρ) trivial (g.tdrop.tdrop.tflat (show flat (.bl _) (.bool _) from rfl))⟩
theorem bi_ne {K : PySem.W.Frag} {x y : PyData} {ra rb : SD} (wa : Vw s ra x) (wb : Vw s rb y) (hx : SeqAt.shaped x = true) (hy : SeqAt.shaped y = true) : Bi K (rNeD K) s ra rb (.d (.bool (!PyData.eqv x y))) s := fun u w T σ ρ H Q g va vb k =>
  ⟨x, y, g.see (List.mem_cons_of_mem _ List.mem_cons_self) va wa, g.see List.mem_cons_self vb wb, hx, hy, k _ ρ H (pre_refl ρ) trivial (g.tdrop.tdrop.tflat (show flat (.bl _) (.bool _) from rfl))⟩
variable {x y : PyData} {ra rb : SD}
theorem ze_eq (hu : X.A.units + 64 < cLine) (wa : Vw s2 ra x) (wb : Vw s2 rb y) (hx : SeqAt.shaped x = true) (hy : SeqAt.shaped y = true) (ha : ZE X a s ra s1) (hb : ZE X b s1 rb s2) : ZE X (.Compare a [.Eq] [b] pos) s (.d (.bool (PyData.eqv x y))) s2 := ze_cmp (op_eqD hu) ha hb (bi_eq wa wb hx hy) (nomark _)
theorem ze_ne (hu : X.A.units + 64 < cLine) (wa : Vw s2 ra x) (wb : Vw s2 rb y) (hx : SeqAt.shaped x = true) (hy : SeqAt.shaped y = true) (ha : ZE X a s ra s1) (hb : ZE X b s1 rb s2) : ZE X (.Compare a [.NotEq] [b] pos) s (.d (.bool (!PyData.eqv x y))) s2 := ze_cmp (op_neD hu) ha hb (bi_ne wa wb hx hy) (nomark _)
theorem zt_eq (hu : X.A.units + 64 < cLine) (wa : Vw s2 ra x) (wb : Vw s2 rb y) (hx : SeqAt.shaped x = true) (hy : SeqAt.shaped y = true) (ha : ZE X a s ra s1) (hb : ZE X b s1 rb s2) : ZT X (.Compare a [.Eq] [b] pos) s (Is (PyData.eqv x y) s2) := zt_cmp (op_eqD hu) ha hb (bi_eq wa wb hx hy) (nomark _)
theorem zt_ne (hu : X.A.units + 64 < cLine) (wa : Vw s2 ra x) (wb : Vw s2 rb y) (hx : SeqAt.shaped x = true) (hy : SeqAt.shaped y = true) (ha : ZE X a s ra s1) (hb : ZE X b s1 rb s2) : ZT X (.Compare a [.NotEq] [b] pos) s (Is (!PyData.eqv x y) s2) := zt_cmp (op_neD hu) ha hb (bi_ne wa wb hx hy) (nomark _)
end
end Z

namespace Z
open PySem L2
section
variable {X : Cx} {e a b c : Expr} {es : List Expr} {s s' s1 s2 s3 : S} {r r1 r2 : SD} {rs : List SD} {pos : Pos} {R : Bool → S → Prop} {k : Bool}

/-! ### tests -/
theorem zt_val (h : ZE X e s (.d (.bool k)) s') (he : ∀ whole, isTrue e X.env whole = (do let v ← whole; standAt e.pos; holding [v] (truthy v)) := by intro _; rfl) : ZT X e s (Is k s') := by
  refine PT.imp (pt_val h he) fun σ H Q ⟨T, ρ, g, q⟩ => ⟨T, ρ, g, fun v ρ' H' p vr g' => ?_⟩
  have d := g'.see (r := .d (.bool k)) List.mem_cons_self trivial (.d _)
  cases d
  exact ⟨k, rfl, q k s' ρ' H' ⟨rfl, rfl⟩ p g'.tdrop⟩
/-- a value's truth -/
def tru : PyData → Bool
  | .none => false
  | .bool b => b
  | .int i => i != 0
  | .str y => (y.length : Int) != 0
  | .list xs => !xs.isEmpty
  | .tuple xs => !xs.isEmpty
  | .dict _ => false
def truOk : PyData → Prop
  | .str y => y.length ≤ sizeLine
  | .dict _ => False
  | _ => True
theorem empty_len {α β : Type} {l : List α} {m : List β} (h : l.length = m.length) : l.isEmpty = m.isEmpty := by
  cases l <;> cases m <;> simp at h ⊢
theorem zt_tru {x : PyData} (h : ZE X e s r s') (w : Vw s' r x) (ok : truOk x) (he : ∀ whole, isTrue e X.env whole = (do let v ← whole; standAt e.pos; holding [v] (truthy v)) := by intro _; rfl) : ZT X e s (Is (tru x) s') := by
  refine PT.imp (pt_truth h he) fun σ H Q ⟨T, ρ, g, q⟩ => ⟨T, ρ, g, fun v ρ' H' p vr g' => ⟨tru x, ?_, q _ s' ρ' H' ⟨rfl, rfl⟩ p g'.tdrop⟩⟩
  have d := g'.see List.mem_cons_self vr w
  cases d with
  | non => exact rfl
  | bl b => exact rfl
  | int i => exact rfl
  | str y => exact ⟨ok, rfl⟩
  | lst hs ha => exact .inl ⟨_, hs, by show (!_) = (!_); rw [empty_len (dpsLen ha)]⟩
  | tup hs ha => exact .inr (.inl ⟨_, hs, by show (!_) = (!_); rw [empty_len (dpsLen ha)]⟩)
theorem zt_not (h : ZT X a s R) : ZT X (.UnaryOp .Not a pos) s (fun b t => R (!b) t) := by
  refine PT.imp (pt_not h) fun σ H Q ⟨T, ρ, g, q⟩ => ⟨T, ρ, g, fun b t ρ' H' hr p g' => q (!b) t ρ' H' (show R (!(!b)) t by rw [Bool.not_not]; exact hr) p g'⟩
theorem zt_notI (h : ZT X a s (Is k s')) : ZT X (.UnaryOp .Not a pos) s (Is (!k) s') := (zt_not h).imp fun b t ⟨h1, h2⟩ => ⟨by rw [← h1, Bool.not_not], h2⟩
theorem zw_all {M : S → Prop} (h : ∀ t, M t → ZW X e t R) : PW X e (fun σ H Q => ∃ t T ρ, M t ∧ Sat X.K t σ ρ T H ∧ ∀ b s' ρ' H', R b s' → ρ <+: ρ' → Sat X.K s' σ ρ' T H' → Q b H') :=
  ⟨fun w pins sh σ H Q I ⟨t, T, ρ, m, g, q⟩ => (h t m).run w pins sh σ H Q I ⟨T, ρ, g, q⟩⟩
theorem zw_and1 (h : ZT X a s R) : ZW X (.BoolOp .And [a] pos) s R := pw_and1 h
theorem zw_or1 (h : ZT X a s R) : ZW X (.BoolOp .Or [a] pos) s R := pw_or1 h
theorem zw_and {Ra : Bool → S → Prop} (h1 : ZT X a s Ra) (h2 : ∀ t, Ra true t → ZW X (.BoolOp .And (b :: es) pos) t R) (h3 : ∀ t, Ra false t → R false t) : ZW X (.BoolOp .And (a :: b :: es) pos) s R := by
  refine PW.imp (pw_and h1 (zw_all h2)) fun σ H Q ⟨T, ρ, g, q⟩ => ⟨T, ρ, g, fun b t ρ' H' hr p g' => ?_⟩
  cases b with
  | true => exact ⟨t, T, ρ', hr, g', fun b' s' ρ2 H2 hr' p' g2 => q b' s' ρ2 H2 hr' (p.trans p') g2⟩
  | false => exact q false t ρ' H' (h3 t hr) p g'
theorem zw_or {Ra : Bool → S → Prop} (h1 : ZT X a s Ra) (h2 : ∀ t, Ra false t → ZW X (.BoolOp .Or (b :: es) pos) t R) (h3 : ∀ t, Ra true t → R true t) : ZW X (.BoolOp .Or (a :: b :: es) pos) s R := by
  refine PW.imp (pw_or h1 (zw_all h2)) fun σ H Q ⟨T, ρ, g, q⟩ => ⟨T, ρ, g, fun b t ρ' H' hr p g' => ?_⟩
  cases b with
  | false => exact ⟨t, T, ρ', hr, g', fun b' s' ρ2 H2 hr' p' g2 => q b' s' ρ2 H2 hr' (p.trans p') g2⟩
  | true => exact q true t ρ' H' (h3 t hr) p g'
/-- .. where the answers are known and the state stays -/
theorem zw_andI {k j : Bool} (h1 : ZT X a s (Is k s)) (h2 : k = true → ZW X (.BoolOp .And (b :: es) pos) s (Is j s)) : ZW X (.BoolOp .And (a :: b :: es) pos) s (Is (k && j) s) := by
  refine zw_and h1 (fun t ⟨e1, e2⟩ => ?_) fun t ⟨e1, e2⟩ => ⟨by rw [← e1]; rfl, e2⟩
  subst e2
  rw [← e1]
  exact h2 e1.symm
theorem zw_orI {k j : Bool} (h1 : ZT X a s (Is k s)) (h2 : k = false → ZW X (.BoolOp .Or (b :: es) pos) s (Is j s)) : ZW X (.BoolOp .Or (a :: b :: es) pos) s (Is (k || j) s) := by
  refine zw_or h1 (fun t ⟨e1, e2⟩ => ?_) fun t ⟨e1, e2⟩ => ⟨by rw [← e1]; rfl, e2⟩
  subst e2
  rw [← e1]
  exact h2 e1.symm
/-- as values -/
theorem ze_one {op : BoolOp} (h : ZE X a s r s') : ZE X (.BoolOp op [a] pos) s r s' := pe_one h
theorem pe_noway {X : Cx} {e : Expr} : PE X e (fun _ _ _ => False) := ⟨fun _ _ _ _ _ _ h => h.elim⟩
theorem ze_and {k j : Bool} (h1 : ZE X a s (.d (.bool k)) s) (h2 : k = true → ZE X (.BoolOp .And (b :: es) pos) s (.d (.bool j)) s) : ZE X (.BoolOp .And (a :: b :: es) pos) s (.d (.bool (k && j))) s := by
  cases k with
  | true =>
    refine PE.imp (pe_and h1 (h2 rfl)) fun σ H Q ⟨T, ρ, g, q⟩ => ⟨T, ρ, g, fun v ρ' H' p vr g' => ?_⟩
    have d := g'.see (r := .d (.bool true)) List.mem_cons_self trivial (.d _)
    cases d
    exact ⟨true, rfl, _, ρ', g'.tdrop, fun v ρ2 H2 p2 vr2 g2 => q v ρ2 H2 (p.trans p2) vr2 g2⟩
  | false =>
    refine PE.imp (pe_and h1 pe_noway) fun σ H Q ⟨T, ρ, g, q⟩ => ⟨T, ρ, g, fun v ρ' H' p vr g' => ?_⟩
    have d := g'.see (r := .d (.bool false)) List.mem_cons_self trivial (.d _)
    cases d
    exact ⟨false, rfl, q _ ρ' H' p trivial g'⟩
theorem ze_or {k j : Bool} (h1 : ZE X a s (.d (.bool k)) s) (h2 : k = false → ZE X (.BoolOp .Or (b :: es) pos) s (.d (.bool j)) s) : ZE X (.BoolOp .Or (a :: b :: es) pos) s (.d (.bool (k || j))) s := by
  cases k with
  | false =>
    refine PE.imp (pe_or h1 (h2 rfl)) fun σ H Q ⟨T, ρ, g, q⟩ => ⟨T, ρ, g, fun v ρ' H' p vr g' => ?_⟩
    have d := g'.see (r := .d (.bool false)) List.mem_cons_self trivial (.d _)
    cases d
    exact ⟨false, rfl, _, ρ', g'.tdrop, fun v ρ2 H2 p2 vr2 g2 => q v ρ2 H2 (p.trans p2) vr2 g2⟩
  | true =>
    refine PE.imp (pe_or h1 pe_noway) fun σ H Q ⟨T, ρ, g, q⟩ => ⟨T, ρ, g, fun v ρ' H' p vr g' => ?_⟩
    have d := g'.see (r := .d (.bool true)) List.mem_cons_self trivial (.d _)
    cases d
    exact ⟨true, rfl, q _ ρ' H' p trivial g'⟩
theorem ze_not (h1 : ZE X a s (.d (.bool k)) s') : ZE X (.UnaryOp .Not a pos) s (.d (.bool (!k))) s' := by
  refine PE.imp (pe_not h1) fun σ H Q ⟨T, ρ, g, q⟩ => ⟨T, ρ, g, fun v ρ' H' p vr g' => ?_⟩
  have d := g'.see (r := .d (.bool k)) List.mem_cons_self trivial (.d _)
  cases d
  exact ⟨k, rfl, q _ ρ' H' p trivial (g'.tdrop.tflat (show flat (.bl _) (.bool _) from rfl))⟩
/-- x if test else y -/
theorem ze_ite (hc : ZT X c s (Is k s1)) (h1 : k = true → ZE X a s1 r s') (h2 : k = false → ZE X b s1 r s') : ZE X (.IfExp c a b pos) s r s' := by
  cases k with
  | true =>
    refine PE.imp (pe_ifExp hc (h1 rfl) pe_noway) fun σ H Q ⟨T, ρ, g, q⟩ => ⟨T, ρ, g, fun b' t ρ' H' ⟨e1, e2⟩ p g' => ?_⟩
    subst e1 e2
    exact ⟨T, ρ', g', fun v ρ2 H2 p2 vr2 g2 => q v ρ2 H2 (p.trans p2) vr2 g2⟩
  | false =>
    refine PE.imp (pe_ifExp hc pe_noway (h2 rfl)) fun σ H Q ⟨T, ρ, g, q⟩ => ⟨T, ρ, g, fun b' t ρ' H' ⟨e1, e2⟩ p g' => ?_⟩
    subst e1 e2
    exact ⟨T, ρ', g', fun v ρ2 H2 p2 vr2 g2 => q v ρ2 H2 (p.trans p2) vr2 g2⟩
theorem ze_iteI {i j : Int} (hc : ZT X c s (Is k s1)) (h1 : k = true → ZE X a s1 (.d (.int i)) s') (h2 : k = false → ZE X b s1 (.d (.int j)) s') : ZE X (.IfExp c a b pos) s (.d (.int (if k then i else j))) s' :=
  ze_ite hc (fun h => by subst h; exact h1 rfl) fun h => by subst h; exact h2 rfl
theorem ze_iteD {x y : PyData} (hc : ZT X c s (Is k s1)) (h1 : k = true → ZE X a s1 (.d x) s') (h2 : k = false → ZE X b s1 (.d y) s') : ZE X (.IfExp c a b pos) s (.d (if k then x else y)) s' :=
  ze_ite hc (fun h => by subst h; exact h1 rfl) fun h => by subst h; exact h2 rfl

/-! ### calls of built-ins -/
/-- how a call of a global name with these arguments is read -/
def Cl (X : Cx) (x : Str) (e : Expr) (es : List Expr) (pos : Pos) : Prop := Gl X x ∧ starEach (e :: es) X.env = (false, eval e X.env) :: starEach es X.env ∧ (backTo pos (starEach es X.env)).any (·.1) = false
theorem ze_callB {q : List V → Hp → VK → Prop} {id : String} {x : Str} {p : Pos} {z : SD} (hc : CallR X (.builtin id) q) (hv : bootBuiltins x = some (.builtin id)) (ha : ZA X (e :: es) s rs s1) (hm : X.mg x = none) (c : Cl X x e es pos) (hq : Ca X.K q s1 rs z s2) (hn : x ≠ "__name__" := by decide)
    (hdb : (x == ("__debug__" : Str)) = false := by decide) : ZE X (.Call (.Name x p) (e :: es) [] pos) s z s2 :=
  PE.imp (pe_callB hc c.1 hm hv ha hn hdb c.2.1 c.2.2) fun σ H Q ⟨T, ρ, g, k⟩ => ⟨T, ρ, g, fun us ρ1 H1 p1 vr1 g1 => hq us T σ ρ1 H1 Q g1 vr1 fun v ρ3 H3 p3 vr3 g3 => k v ρ3 H3 (p1.trans p3) vr3 g3⟩
theorem ze_callT {q : List V → Hp → VK → Prop} {id : String} {x : Str} {p : Pos} {z : SD} (hc : CallR X (.type id) q) (hv : bootBuiltins x = some (.type id)) (ha : ZA X (e :: es) s rs s1) (hm : X.mg x = none) (c : Cl X x e es pos) (hq : Ca X.K q s1 rs z s2) (hn : x ≠ "__name__" := by decide)
    (hdb : (x == ("__debug__" : Str)) = false := by decide) : ZE X (.Call (.Name x p) (e :: es) [] pos) s z s2 :=
  PE.imp (pe_callTy hc c.1 hm hv ha hn hdb c.2.1 c.2.2) fun σ H Q ⟨T, ρ, g, k⟩ => ⟨T, ρ, g, fun us ρ1 H1 p1 vr1 g1 => hq us T σ ρ1 H1 Q g1 vr1 fun v ρ3 H3 p3 vr3 g3 => k v ρ3 H3 (p1.trans p3) vr3 g3⟩
theorem vrs1 {ρ : List V} {us : List V} (h : VRs [r] ρ us) : ∃ u, us = [u] ∧ VR r ρ u := by
  obtain ⟨h1, h2⟩ := h
  match us, h1 with
  | [u], _ => exact ⟨u, rfl, h2 0 r u rfl rfl⟩
theorem vrs2 {ρ : List V} {us : List V} (h : VRs [r, r1] ρ us) : ∃ u w, us = [u, w] ∧ VR r ρ u ∧ VR r1 ρ w := by
  obtain ⟨h1, h2⟩ := h
  match us, h1 with
  | [u, w], _ => exact ⟨u, w, rfl, h2 0 r u rfl rfl, h2 1 r1 w rfl rfl⟩
def Ca1 (K : PySem.W.Frag) (q : List V → Hp → VK → Prop) (s : S) (a z : SD) (s' : S) : Prop := ∀ u T σ ρ H Q, Sat K s σ ρ ((itOf a, some u) :: T) H → VR a ρ u →
  (∀ v ρ' H', ρ <+: ρ' → VR z ρ' v → Sat K s' σ ρ' ((itOf z, some v) :: T) H' → Q v H') → q [u] H Q
theorem ca1 {q : List V → Hp → VK → Prop} {K : PySem.W.Frag} {z : SD} (h : Ca1 K q s r z s') : Ca K q s [r] z s' := fun us T σ ρ H Q g vr k => by
  obtain ⟨u, e, h1⟩ := vrs1 vr
  subst e
  exact h u T σ ρ H Q g h1 k
def Ca2 (K : PySem.W.Frag) (q : List V → Hp → VK → Prop) (s : S) (a b z : SD) (s' : S) : Prop := ∀ u w T σ ρ H Q, Sat K s σ ρ ((itOf a, some u) :: (itOf b, some w) :: T) H → VR a ρ u → VR b ρ w →
  (∀ v ρ' H', ρ <+: ρ' → VR z ρ' v → Sat K s' σ ρ' ((itOf z, some v) :: T) H' → Q v H') → q [u, w] H Q
theorem ca2 {q : List V → Hp → VK → Prop} {K : PySem.W.Frag} {z : SD} (h : Ca2 K q s r r1 z s') : Ca K q s [r, r1] z s' := fun us T σ ρ H Q g vr k => by
  obtain ⟨u, w, e, h1, h2⟩ := vrs2 vr
  subst e
  exact h u w T σ ρ H Q g h1 h2 k
variable {f p : Pos} {n : Nat} {i j : Int} {x y z : PyData} {ds : List PyData}
theorem ze_absI (ha : ZA X [a] s [.d (.int i)] s1) (hm : X.mg "abs" = none) (c : Cl X "abs" a [] pos := by exact ⟨rfl, rfl, rfl⟩) : ZE X (.Call (.Name "abs" p) [a] [] pos) s (.d (.int (if i < 0 then -i else i))) s1 :=
  ze_callB call_abs (by decide +kernel) ha hm c (ca1 fun u T σ ρ H Q g vr k => by
    have e1 := see_int (i := i) (v := u) g List.mem_cons_self
    subst e1
    exact ⟨i, rfl, k _ ρ H (pre_refl ρ) trivial (g.tdrop.tflat (show flat (.int _) (.int _) from rfl))⟩)
theorem ze_intI (ha : ZA X [a] s [.d (.int i)] s1) (hm : X.mg "int" = none) (c : Cl X "int" a [] pos := by exact ⟨rfl, rfl, rfl⟩) : ZE X (.Call (.Name "int" p) [a] [] pos) s (.d (.int i)) s1 :=
  ze_callT call_int1 (by decide +kernel) ha hm c (ca1 fun u T σ ρ H Q g vr k => by
    have e1 := see_int (i := i) (v := u) g List.mem_cons_self
    subst e1
    exact .inl ⟨i, rfl, k _ ρ H (pre_refl ρ) trivial (g.tdrop.tflat (show flat (.int _) (.int _) from rfl))⟩)
theorem ze_max2 (ha : ZA X [a, b] s [.d (.int i), .d (.int j)] s1) (hm : X.mg "max" = none) (hk : X.calm = true := by rfl) (c : Cl X "max" a [b] pos := by exact ⟨rfl, rfl, rfl⟩) : ZE X (.Call (.Name "max" p) [a, b] [] pos) s (.d (.int (if j > i then j else i))) s1 :=
  ze_callB (call_max2 hk) (by decide +kernel) ha hm c (ca2 fun u w T σ ρ H Q g _ _ k => by
    have e1 := see_int (i := i) (v := u) g List.mem_cons_self
    have e2 := see_int (i := j) (v := w) g (List.mem_cons_of_mem _ List.mem_cons_self)
    subst e1 e2
    exact ⟨i, j, rfl, k _ ρ H (pre_refl ρ) trivial (g.tdrop.tdrop.tflat (show flat (.int _) (.int _) from rfl))⟩)
theorem ze_min2 (ha : ZA X [a, b] s [.d (.int i), .d (.int j)] s1) (hm : X.mg "min" = none) (hk : X.calm = true := by rfl) (c : Cl X "min" a [b] pos := by exact ⟨rfl, rfl, rfl⟩) : ZE X (.Call (.Name "min" p) [a, b] [] pos) s (.d (.int (if j < i then j else i))) s1 :=
  ze_callB (call_min2 hk) (by decide +kernel) ha hm c (ca2 fun u w T σ ρ H Q g _ _ k => by
    have e1 := see_int (i := i) (v := u) g List.mem_cons_self
    have e2 := see_int (i := j) (v := w) g (List.mem_cons_of_mem _ List.mem_cons_self)
    subst e1 e2
    exact ⟨i, j, rfl, k _ ρ H (pre_refl ρ) trivial (g.tdrop.tdrop.tflat (show flat (.int _) (.int _) from rfl))⟩)
theorem ze_lenL (w : Vw s1 r (.list ds)) (ha : ZA X [a] s [r] s1) (hm : X.mg "len" = none) (c : Cl X "len" a [] pos := by exact ⟨rfl, rfl, rfl⟩) : ZE X (.Call (.Name "len" p) [a] [] pos) s (.d (.int (ds.length : Nat))) s1 :=
  ze_callB call_len_seq (by decide +kernel) ha hm c (ca1 fun u T σ ρ H Q g vr k => by
    obtain ⟨F, p, vs, e1, hs, hd, _⟩ := g.seeL List.mem_cons_self vr w
    subst e1
    exact ⟨p, vs, rfl, .inl hs, k _ ρ H (pre_refl ρ) trivial (g.tdrop.tflat (show flat (.int _) (.int _) by rw [dpsLen hd]; exact rfl))⟩)
theorem ze_lenT (w : Vw s1 r (.tuple ds)) (ha : ZA X [a] s [r] s1) (hm : X.mg "len" = none) (c : Cl X "len" a [] pos := by exact ⟨rfl, rfl, rfl⟩) : ZE X (.Call (.Name "len" p) [a] [] pos) s (.d (.int (ds.length : Nat))) s1 :=
  ze_callB call_len_seq (by decide +kernel) ha hm c (ca1 fun u T σ ρ H Q g vr k => by
    obtain ⟨F, p, vs, e1, hs, hd, _⟩ := g.seeT List.mem_cons_self w
    subst e1
    exact ⟨p, vs, rfl, .inr hs, k _ ρ H (pre_refl ρ) trivial (g.tdrop.tflat (show flat (.int _) (.int _) by rw [dpsLen hd]; exact rfl))⟩)
/-- tuple of a list; a list's copy, kept for good or of its own -/
theorem ze_tupOfL (w : Vw s1 r (.list ds)) (ha : ZA X [a] s [r] s1) (hm : X.mg "tuple" = none) (c : Cl X "tuple" a [] pos := by exact ⟨rfl, rfl, rfl⟩) : ZE X (.Call (.Name "tuple" p) [a] [] pos) s (.d (.tuple ds)) s1 :=
  ze_callT call_tuple_of (by decide +kernel) ha hm c (ca1 fun u T σ ρ H Q g vr k => by
    obtain ⟨F, p, vs, e1, hs, hd, f⟩ := g.seeL List.mem_cons_self vr w
    subst e1
    exact ⟨p, vs, rfl, .inl ⟨hs, fun l hl => k _ ρ _ (pre_refl ρ) trivial (g.out1 (f.tup hd hl))⟩⟩)
theorem ze_tupOfT (w : Vw s1 r (.tuple ds)) (ha : ZA X [a] s [r] s1) (hm : X.mg "tuple" = none) (c : Cl X "tuple" a [] pos := by exact ⟨rfl, rfl, rfl⟩) : ZE X (.Call (.Name "tuple" p) [a] [] pos) s (.d (.tuple ds)) s1 :=
  ze_callT call_tuple_of (by decide +kernel) ha hm c (ca1 fun u T σ ρ H Q g vr k => by
    cases w
    obtain ⟨F, p, vs, e1, hs, hd, f⟩ := g.seeT (r := .d (.tuple ds)) List.mem_cons_self (.d _)
    subst e1
    exact ⟨p, vs, rfl, .inr ⟨hs, k _ ρ _ (pre_refl ρ) trivial g⟩⟩)
theorem Sat.push1 {K : PySem.W.Frag} {σ : L2.St} {ρ : List V} {T : List En} {H H' : Hp} {P : Own} {v : V} {xx : En} (g : Sat K s σ ρ (xx :: T) H) (h : OK K ((IT.o P, some v) :: (xx :: T ++ (ES s.e σ ++ RS s.R ρ))) H') : Sat K ⟨s.e, s.R ++ [P]⟩ σ (ρ ++ [v]) T H' :=
  Sat.push ((h.perm (List.Perm.swap xx _ _)).right (k := [xx])) g.le g.lr g.al
theorem Sat.newVR {K : PySem.W.Frag} {σ : L2.St} {ρ : List V} {T : List En} {H : Hp} {v : V} (g : Sat K s σ ρ T H) : VR (.r s.R.length) (ρ ++ [v]) v := by
  show (ρ ++ [v])[s.R.length]? = some v
  rw [g.lr, List.getElem?_append_right (Nat.le_refl _), Nat.sub_self]
  rfl
theorem ze_listOfL (w : Vw s1 r (.list ds)) (ha : ZA X [a] s [r] s1) (hm : X.mg "list" = none) (c : Cl X "list" a [] pos := by exact ⟨rfl, rfl, rfl⟩) : ZE X (.Call (.Name "list" p) [a] [] pos) s (.d (.list ds)) s1 :=
  ze_callT call_list_of (by decide +kernel) ha hm c (ca1 fun u T σ ρ H Q g vr k => by
    obtain ⟨F, p, vs, e1, hs, hd, f⟩ := g.seeL List.mem_cons_self vr w
    subst e1
    exact ⟨p, vs, rfl, .inl hs, fun l hl => k _ ρ _ (pre_refl ρ) trivial (g.out1 (f.lstD hd hl))⟩)
theorem ze_listOfT (w : Vw s1 r (.tuple ds)) (ha : ZA X [a] s [r] s1) (hm : X.mg "list" = none) (c : Cl X "list" a [] pos := by exact ⟨rfl, rfl, rfl⟩) : ZE X (.Call (.Name "list" p) [a] [] pos) s (.d (.list ds)) s1 :=
  ze_callT call_list_of (by decide +kernel) ha hm c (ca1 fun u T σ ρ H Q g vr k => by
    obtain ⟨F, p, vs, e1, hs, hd, f⟩ := g.seeT List.mem_cons_self w
    subst e1
    exact ⟨p, vs, rfl, .inr hs, fun l hl => k _ ρ _ (pre_refl ρ) trivial (g.out1 (f.lstD hd hl))⟩)
/-! ### items, slices, sums of tuples -/
theorem atI_map {α β : Type} {f : α → β} {xs : List α} {i : Int} : atI (xs.map f) i = (atI xs i).map f := by
  unfold atI
  rw [List.length_map]
  cases ixN xs.length i with
  | none => rfl
  | some j => simp
theorem dps_atI {K : PySem.W.Frag} {F : Hp} {vs : List V} {i : Int} (h : DpAll K F vs ds) (e : atI ds i = some x) : ∃ v, atI vs i = some v ∧ Dp K F v x := by
  unfold atI at e ⊢
  rw [dpsLen h]
  cases q : ixN ds.length i with
  | none => rw [q] at e; cases e
  | some j =>
    rw [q] at e
    exact dpsGet h e
theorem ze_ixL (w : Vw s2 r (.list ds)) (ix : atI ds i = some x) (ha : ZE X a s r s1) (hb : ZE X b s1 (.d (.int i)) s2) (hs : PlainIx b := by intro _ _; rfl) : ZE X (.Subscript a b pos) s (.d x) s2 :=
  PE.imp (pe_ix ix_list ha hb hs) (bi_run fun u w' T σ ρ H Q g va vb k => by
    have e1 := see_int (i := i) (v := w') g List.mem_cons_self
    subst e1
    obtain ⟨F, p, vs, e1, hs, hd, f⟩ := g.seeL (List.mem_cons_of_mem _ List.mem_cons_self) va w
    subst e1
    obtain ⟨v, h1, h2⟩ := dps_atI hd ix
    exact ⟨p, vs, i, v, rfl, rfl, hs, h1, k v ρ H (pre_refl ρ) trivial (g.out2 (f.add h2).ok)⟩)
theorem ze_ixT (w : Vw s2 r (.tuple ds)) (ix : atI ds i = some x) (ha : ZE X a s r s1) (hb : ZE X b s1 (.d (.int i)) s2) (hs : PlainIx b := by intro _ _; rfl) : ZE X (.Subscript a b pos) s (.d x) s2 :=
  PE.imp (pe_ix ix_tup ha hb hs) (bi_run fun u w' T σ ρ H Q g va vb k => by
    have e1 := see_int (i := i) (v := w') g List.mem_cons_self
    subst e1
    obtain ⟨F, p, vs, e1, hs, hd, f⟩ := g.seeT (List.mem_cons_of_mem _ List.mem_cons_self) w
    subst e1
    obtain ⟨v, h1, h2⟩ := dps_atI hd ix
    exact ⟨p, vs, i, v, rfl, rfl, hs, h1, k v ρ H (pre_refl ρ) trivial (g.out2 (f.add h2).ok)⟩)
theorem bi_cat {K : PySem.W.Frag} {ds es : List PyData} (hz : ds.length + es.length ≤ sizeLine) : Bi K (rCatA K) s (.d (.tuple ds)) (.d (.tuple es)) (.d (.tuple (ds ++ es))) s := fun u w T σ ρ H Q g va vb k => by
  obtain ⟨F, f⟩ := g.ok.fz
  obtain ⟨u', e1, h1⟩ := f.at (x := .tuple ds) (v := some u) (List.mem_append_left _ (List.mem_cons_of_mem _ List.mem_cons_self))
  obtain ⟨w', e2, h2⟩ := f.at (x := .tuple es) (v := some w) (List.mem_append_left _ List.mem_cons_self)
  cases e1
  cases e2
  cases h1 with
  | tup hs ha =>
    cases h2 with
    | tup ht hb =>
      refine ⟨_, _, _, _, rfl, rfl, f.ext.t hs, f.ext.t ht, by rw [dpsLen ha, dpsLen hb]; exact hz, fun e => ?_, fun _ e => ?_, fun _ _ p hp => ?_⟩
      · subst e
        cases ha
        exact k _ ρ H (pre_refl ρ) trivial (g.out2 (f.add (x := .tuple ([] ++ es)) (.tup ht hb)).ok)
      · subst e
        cases hb
        exact k _ ρ H (pre_refl ρ) trivial (g.out2 (f.add (x := .tuple (ds ++ [])) (by rw [List.append_nil]; exact .tup hs ha)).ok)
      · exact k _ ρ _ (pre_refl ρ) trivial (g.out2 (f.tup (dpsApp ha hb) hp))
theorem ze_cat {ds es : List PyData} (hz : ds.length + es.length ≤ sizeLine) (ha : ZE X a s (.d (.tuple ds)) s1) (hb : ZE X b s1 (.d (.tuple es)) s2) : ZE X (.BinOp a .Add b pos) s (.d (.tuple (ds ++ es))) s2 := ze_op op_catA ha hb (bi_cat hz)
/-- a slice's part -/
def tP (K : PySem.W.Frag) (s : S) (o : Option Int) (s' : S) : TO := fun σ H Q => ∃ T ρ, Sat K s σ ρ T H ∧ ∀ ρ' H', ρ <+: ρ' → Sat K s' σ ρ' T H' → Q o H'
def ZP (X : Cx) (e : Option Expr) (s : S) (o : Option Int) (s' : S) : Prop := PO X e (tP X.K s o s')
theorem PO.imp {X : Cx} {e : Option Expr} {t t' : TO} (h : PO X e t) (i : ∀ σ H Q, t' σ H Q → t σ H Q) : PO X e t' := ⟨fun pins s σ H Q I q => h.run pins s σ H Q I (i σ H Q q)⟩
theorem zp_none : ZP X none s none s := PO.imp po_none fun σ H Q ⟨T, ρ, g, q⟩ => q ρ H (pre_refl ρ) g
theorem zp_some (h : ZE X e s (.d (.int i)) s1) : ZP X (some e) s (some i) s1 := PO.imp (po_some h) fun σ H Q ⟨T, ρ, g, q⟩ => ⟨T, ρ, g, fun v ρ' H' p vr g' => by
  have e1 := see_int (i := i) (v := v) g' List.mem_cons_self
  subst e1
  exact ⟨i, rfl, q ρ' H' p g'.tdrop⟩⟩
def cut (xs : List PyData) (lo hi : Option Int) : List PyData := (xs.drop (HT.sIx xs.length 0 lo)).take (HT.sIx xs.length xs.length hi - HT.sIx xs.length 0 lo)
theorem dps_cut {K : PySem.W.Frag} {F : Hp} {vs : List V} {lo hi : Option Int} (h : DpAll K F vs ds) : DpAll K F (cutV vs lo hi) (cut ds lo hi) := by
  unfold cutV cut
  rw [dpsLen h]
  exact dpsTake _ (dpsDrop _ h)
variable {lo hi : Option Expr} {l u : Option Int} {p2 : Pos}
theorem ze_slL (w : Vw s3 r (.list ds)) (ha : ZE X a s r s1) (hl : ZP X lo s1 l s2) (hu : ZP X hi s2 u s3) : ZE X (.Subscript a (.Slice lo hi none p2) pos) s (.d (.list (cut ds l u))) s3 :=
  PE.imp (pe_slice sl_list ha hl hu) fun σ H Q ⟨T, ρ, g, k⟩ => ⟨T, ρ, g, fun v ρ1 H1 p1 vr1 g1 => ⟨_, ρ1, g1, fun ρ2 H2 p2 g2 => ⟨_, ρ2, g2, fun ρ3 H3 p3 g3 => by
    obtain ⟨F, p, vs, e1, hs, hd, f⟩ := g3.seeL List.mem_cons_self ((vr1.mono p2).mono p3) w
    subst e1
    exact ⟨p, vs, rfl, hs, fun q hq => k _ ρ3 _ ((p1.trans p2).trans p3) trivial (g3.out1 (f.lstD (dps_cut hd) hq))⟩⟩⟩⟩
theorem ze_slT (w : Vw s3 r (.tuple ds)) (ha : ZE X a s r s1) (hl : ZP X lo s1 l s2) (hu : ZP X hi s2 u s3) : ZE X (.Subscript a (.Slice lo hi none p2) pos) s (.d (.tuple (cut ds l u))) s3 :=
  PE.imp (pe_slice sl_tupA ha hl hu) fun σ H Q ⟨T, ρ, g, k⟩ => ⟨T, ρ, g, fun v ρ1 H1 p1 vr1 g1 => ⟨_, ρ1, g1, fun ρ2 H2 p2 g2 => ⟨_, ρ2, g2, fun ρ3 H3 p3 g3 => by
    obtain ⟨F, p, vs, e1, hs, hd, f⟩ := g3.seeT List.mem_cons_self w
    subst e1
    refine ⟨p, vs, rfl, hs, fun ⟨z1, z2⟩ => ?_, fun _ q hq => k _ ρ3 _ ((p1.trans p2).trans p3) trivial (g3.out1 (f.tup (dps_cut hd) hq))⟩
    have e : cut ds l u = ds := by
      unfold cut
      rw [dpsLen hd] at z1 z2
      rw [z1, z2]
      simp
    cases w
    exact k _ ρ3 _ ((p1.trans p2).trans p3) trivial (by rw [e]; exact g3)⟩⟩⟩
end
end Z

namespace Z
open PySem L2

/-! ### less is known -/
def wkE : List SD → List SD → Prop
  | [], [] => True
  | a :: l, b :: m => (b = a ∨ b = .un) ∧ wkE l m
  | _, _ => False
/-- no reference at n or beyond -/
def low (n : Nat) : List SD → Prop
  | [] => True
  | .r j :: l => j < n ∧ low n l
  | _ :: l => low n l
theorem wkE_len : ∀ {l m : List SD}, wkE l m → m.length = l.length
  | [], [], _ => rfl
  | a :: l, b :: m, h => by simp [wkE_len h.2]
  | [], _ :: _, h => h.elim
  | _ :: _, [], h => h.elim
theorem wkE_get : ∀ {l m : List SD}, wkE l m → ∀ {i : Nat} {b : SD}, m[i]? = some b → ∃ a, l[i]? = some a ∧ (b = a ∨ b = .un)
  | [], [], _, i, b, e => by simp at e
  | a :: l, b :: m, h, 0, c, e => by simp at e; subst e; exact ⟨a, rfl, h.1⟩
  | a :: l, b :: m, h, i + 1, c, e => by
    rw [List.getElem?_cons_succ] at e
    obtain ⟨x, h1, h2⟩ := wkE_get h.2 e
    exact ⟨x, by rw [List.getElem?_cons_succ]; exact h1, h2⟩
  | [], _ :: _, h, _, _, _ => h.elim
  | _ :: _, [], h, _, _, _ => h.elim
theorem wkE_refl : ∀ l : List SD, wkE l l
  | [] => trivial
  | a :: l => ⟨.inl rfl, wkE_refl l⟩
theorem low_get {n : Nat} : ∀ {l : List SD}, low n l → ∀ {i j : Nat}, l[i]? = some (SD.r j) → j < n
  | [], _, i, j, e => by simp at e
  | .r k :: l, h, 0, j, e => by simp at e; subst e; exact h.1
  | .un :: l, h, 0, j, e => by simp at e
  | .d x :: l, h, 0, j, e => by simp at e
  | .r k :: l, h, i + 1, j, e => low_get (l := l) h.2 (by simpa using e)
  | .un :: l, h, i + 1, j, e => low_get (l := l) h (by simpa using e)
  | .d x :: l, h, i + 1, j, e => low_get (l := l) h (by simpa using e)
section
variable {K : PySem.W.Frag} {s : S} {σ : L2.St} {ρ : List V} {T : List En} {H : Hp}
theorem Held.forget {F : Hp} {x : En} {fp : List Addr} {L : List EF} {v : Option V} (h : Held K F H ((x, fp) :: L)) : Held K F H (((IT.un, v), []) :: L) := h.tail.unCons
theorem ok_es : ∀ {e e' : List SD} {σ : L2.St} {l : List En}, wkE e e' → OK K (ES e σ ++ l) H → OK K (ES e' σ ++ l) H
  | [], [], _, _, _, h => h
  | a :: e, b :: e', [], l, _, h => h
  | a :: e, b :: e', v :: σ, l, w, h => by
    have h1 : OK K (ES e σ ++ ((itOf a, v) :: l)) H := h.perm List.perm_middle.symm
    have h2 : OK K (ES e' σ ++ ((itOf a, v) :: l)) H := ok_es w.2 h1
    have h3 : OK K ((itOf b, v) :: (ES e' σ ++ l)) H := by
      have h4 : OK K ((itOf a, v) :: (ES e' σ ++ l)) H := h2.perm List.perm_middle
      rcases w.1 with z | z
      · rw [z]; exact h4
      · rw [z]; exact h4.tail.un
    exact h3
  | [], _ :: _, _, _, w, _ => w.elim
  | _ :: _, [], _, _, w, _ => w.elim
theorem Sat.trim {e' : List SD} {n : Nat} (g : Sat K s σ ρ T H) (w : wkE s.e e') (lw : low n e') : Sat K ⟨e', s.R.take n⟩ σ (ρ.take n) T H := by
  refine ⟨(wkE_len w).trans g.le, by simp [g.lr], fun i j e => ?_, ?_⟩
  · obtain ⟨a, h1, h2⟩ := wkE_get w e
    rcases h2 with z | z
    · subst z
      obtain ⟨v, e1, e2⟩ := g.al i j h1
      exact ⟨v, e1, by rw [List.getElem?_take_of_lt (low_get lw e)]; exact e2⟩
    · cases z
  · have h1 : OK K (ES e' σ ++ (RS s.R ρ ++ T)) H := by
      refine ok_es w (g.ok.perm ?_)
      exact (List.perm_append_comm).trans (by rw [List.append_assoc])
    have q : RS s.R ρ = RS (s.R.take n) (ρ.take n) ++ RS (s.R.drop n) (ρ.drop n) := by
      unfold RS
      rw [← List.zipWith_append (by simp [g.lr]), List.take_append_drop, List.take_append_drop]
    rw [q] at h1
    have h2 : OK K (RS (s.R.drop n) (ρ.drop n) ++ (T ++ (ES e' σ ++ RS (s.R.take n) (ρ.take n)))) H := by
      refine h1.perm ?_
      have p1 : (ES e' σ ++ (RS (s.R.take n) (ρ.take n) ++ RS (s.R.drop n) (ρ.drop n) ++ T)).Perm ((ES e' σ ++ RS (s.R.take n) (ρ.take n)) ++ (RS (s.R.drop n) (ρ.drop n) ++ T)) := by
        rw [List.append_assoc, List.append_assoc]
      refine p1.trans ?_
      refine (List.perm_append_comm).trans ?_
      rw [List.append_assoc]
    exact OK.right h2
end
theorem ZE.trim {X : Cx} {e : Expr} {s s1 : S} {x : PyData} {e' : List SD} {n : Nat} (h : ZE X e s (.d x) s1) (w : wkE s1.e e') (lw : low n e') (hn : s.R.length ≤ n) : ZE X e s (.d x) ⟨e', s1.R.take n⟩ :=
  PE.imp h fun σ H Q ⟨T, ρ, g, k⟩ => ⟨T, ρ, g, fun v ρ' H' p vr g' => k v (ρ'.take n) H' (by
    obtain ⟨m, rfl⟩ := p
    rw [List.take_append, List.take_of_length_le (by rw [← g.lr]; exact hn)]
    exact List.prefix_append _ _) trivial (g'.trim w lw)⟩
/-- the state as it was, less what came -/
theorem low_of {K : PySem.W.Frag} {s : S} {σ : L2.St} {ρ : List V} {T : List En} {H : Hp} (g : Sat K s σ ρ T H) : low s.R.length s.e := by
  have h : ∀ l : List SD, (∀ (i j : Nat), l[i]? = some (SD.r j) → j < s.R.length) → low s.R.length l := by
    intro l
    induction l with
    | nil => intro _; trivial
    | cons a l ih =>
      intro h
      have t := ih fun i j e => h (i + 1) j (by simpa using e)
      cases a with
      | r k => exact ⟨h 0 k rfl, t⟩
      | un => exact t
      | d x => exact t
  refine h s.e fun i j e => ?_
  obtain ⟨v, _, e2⟩ := g.al i j e
  rw [g.lr]
  exact (List.getElem?_eq_some_iff.mp e2).1
theorem ZE.clean {X : Cx} {e : Expr} {s : S} {x : PyData} {R' : List Own} (h : ZE X e s (.d x) ⟨s.e, s.R ++ R'⟩) : ZE X e s (.d x) s :=
  PE.imp h fun σ H Q ⟨T, ρ, g, k⟩ => ⟨T, ρ, g, fun v ρ' H' p vr g' => k v (ρ'.take s.R.length) H' (by
    obtain ⟨m, rfl⟩ := p
    rw [List.take_append, List.take_of_length_le (by rw [← g.lr]; exact Nat.le_refl _)]
    exact List.prefix_append _ _) trivial (by
      have t := g'.trim (e' := s.e) (n := s.R.length) (wkE_refl _) (low_of g)
      have q : (s.R ++ R').take s.R.length = s.R := by simp
      rw [show (⟨s.e, (⟨s.e, s.R ++ R'⟩ : S).R.take s.R.length⟩ : S) = s by rw [show (⟨s.e, s.R ++ R'⟩ : S).R = s.R ++ R' from rfl, q]] at t
      exact t)⟩
def gone : Own where
  holds := fun _ _ _ _ fp => fp = []
  stay := fun h _ _ => h
/-- a list that has just come, kept for good -/
theorem ZE.frz {X : Cx} {e : Expr} {s s1 : S} {j : Nat} {ds : List PyData} (h : ZE X e s (.r j) s1) (hj : s1.R[j]? = some (OL ds)) : ZE X e s (.d (.list ds)) ⟨s1.e, s1.R.set j gone⟩ :=
  PE.imp h fun σ H Q ⟨T, ρ, g, k⟩ => ⟨T, ρ, g, fun v ρ' H' p vr g' => k v ρ' H' p trivial (by
    obtain ⟨w, e2, ok, back⟩ := g'.obj hj
    have ev : w = v := Option.some.inj (e2.symm.trans vr)
    subst ev
    obtain ⟨F, f⟩ := ok.fz
    have f2 : OK X.K ((IT.d (.list ds), some w) :: (T ++ (ES s1.e σ ++ (RS s1.R ρ').set j (IT.un, some w)))) H' := (OK.perm (List.Perm.swap _ _ _) f.freeze).tail
    have f3 : OK X.K ((IT.o gone, some w) :: (((IT.d (.list ds), some w) :: T) ++ (ES s1.e σ ++ (RS s1.R ρ').set j (IT.un, some w)))) H' := by
      obtain ⟨F2, L, e1, gg⟩ := f2
      have c := gg.oCons (v := w) (P := gone) (fp := []) rfl List.nodup_nil (fun a ha => by cases ha) (fun a ha => by cases ha)
      exact ⟨F2, (((IT.o gone, some w), []) :: L), by rw [List.map_cons, e1]; rfl, c⟩
    exact back2 g' hj e2 f3)⟩
where
  back2 {K : PySem.W.Frag} {s : S} {σ : L2.St} {ρ : List V} {T T2 : List En} {H H' : Hp} {j : Nat} {P Q : Own} {w : V} (g : Sat K s σ ρ T H) (hj : s.R[j]? = some P) (e2 : ρ[j]? = some w)
      (ok : OK K ((IT.o Q, some w) :: (T2 ++ (ES s.e σ ++ (RS s.R ρ).set j (IT.un, some w)))) H') : Sat K ⟨s.e, s.R.set j Q⟩ σ ρ T2 H' := by
    have hz : j < (RS s.R ρ).length := (List.getElem?_eq_some_iff.mp (rs_get hj e2)).1
    refine ⟨g.le, by simpa using g.lr, g.al, ?_⟩
    have k := ok.set (T2.length + ((ES s.e σ).length + j))
    rw [List.set_append_right _ _ (Nat.le_add_right _ _), Nat.add_sub_cancel_left, List.set_append_right _ _ (Nat.le_add_right _ _), Nat.add_sub_cancel_left, List.set_set, ← rs_set g.lr e2] at k
    exact k

/-! ### statements -/
section
variable {X : Cx} {e a b c : Expr} {es : List Expr} {st : Stmt} {rest body orelse : List Stmt} {s s' s1 s2 s3 : S} {r r1 r2 : SD} {rs : List SD} {pos : Pos} {R : Bool → S → Prop} {k : Bool} {P : Po} {M : S → Prop}
theorem Meets.mono {K : PySem.W.Frag} {ρ ρ' : List V} {T : List En} {D : Ends} (h : Meets K P ρ T D) (p : ρ <+: ρ') : Meets K P ρ' T D :=
  ⟨fun s' σ' r' H' a q g => h.nx s' σ' r' H' a (p.trans q) g, fun x s' σ' r' H' v a q vr g => h.rt x s' σ' r' H' v a (p.trans q) vr g, fun s' σ' r' H' a q g => h.bk s' σ' r' H' a (p.trans q) g, fun s' σ' r' H' a q g => h.ct s' σ' r' H' a (p.trans q) g⟩
theorem take_pre {ρ ρ' : List V} {n : Nat} (p : ρ <+: ρ') (h : n ≤ ρ.length) : ρ'.take n = ρ.take n := by
  obtain ⟨m, rfl⟩ := p
  exact List.take_append_of_le_length h
theorem take_pre' {ρ ρ' : List V} {n : Nat} (p : ρ.take n <+: ρ') (h : n ≤ ρ.length) : ρ'.take n = ρ.take n ∧ n ≤ ρ'.length := by
  obtain ⟨m, rfl⟩ := p
  have l : (ρ.take n).length = n := by rw [List.length_take]; omega
  refine ⟨?_, by rw [List.length_append, l]; omega⟩
  rw [List.take_append_of_le_length (by omega), List.take_of_length_le (by omega)]
/-- a block in two: what is between -/
theorem zss_seq (h1 : PS X st (tS X.K (fun t => t = s) { P with nx := M })) (h2 : ∀ t, M t → ZSs X rest t P) : ZSs X (st :: rest) s P := by
  refine PSs.imp (pss_cons h1 (zss_all h2)) fun D σ H ⟨t, T, ρ, e1, hb, g, q⟩ => ?_
  refine ⟨t, T, ρ, e1, hb, g, ⟨fun s' σ' ρ' H' m p g' => ?_, q.rt, q.bk, q.ct⟩⟩
  obtain ⟨z1, z2⟩ := take_pre' p hb
  exact ⟨s', T, ρ', m, z2, g', by rw [z1]; exact q⟩
theorem zss_nil (h : P.nx s) : ZSs X [] s P := PSs.imp pss_nil fun D σ H ⟨t, T, ρ, e1, hb, g, q⟩ => by
  subst e1
  exact q.nx t σ ρ H h (List.take_prefix _ _) g
/-- .. forgetting -/
theorem zss_end {e' : List SD} (n : Nat) (w : wkE s.e e') (lw : low n e') (hn : P.b ≤ n) (h : P.nx ⟨e', s.R.take n⟩) : ZSs X [] s P := PSs.imp pss_nil fun D σ H ⟨t, T, ρ, e1, hb, g, q⟩ => by
  subst e1
  refine q.nx _ σ (ρ.take n) H h ?_ (g.trim w lw)
  rw [show ρ.take P.b = (ρ.take n).take P.b by rw [List.take_take, Nat.min_eq_left hn]]
  exact List.take_prefix _ _
/-- forgetting on the way -/
theorem zss_forget {e' : List SD} (n : Nat) (w : wkE s.e e') (lw : low n e') (hn : P.b ≤ n) (h : ZSs X rest ⟨e', s.R.take n⟩ P) : ZSs X rest s P := PSs.imp h fun D σ H ⟨t, T, ρ, e1, hb, g, q⟩ => by
  subst e1
  refine ⟨_, T, ρ.take n, rfl, by rw [List.length_take]; omega, g.trim w lw, ?_⟩
  rw [List.take_take, Nat.min_eq_left hn]
  exact q
/-- a statement that is a test of an expression's value dropped, .. -/
theorem zss_expr (h : ZE X e s r s1) (k : ZSs X rest s1 P) (hs : swapsWith e none pos.line X.env = pure false := by rfl) : ZSs X (.Expr e pos :: rest) s P :=
  zss_seq (M := fun t => t = s1) (PS.imp (ps_expr h hs) fun D σ H ⟨t, T, ρ, e1, hb, g, q⟩ => by
    subst e1
    exact ⟨T, ρ, g, fun v ρ' H' p vr g' => q.nx s1 σ ρ' H' rfl ((List.take_prefix _ _).trans p) g'.tdrop⟩) fun t e => by subst e; exact k
theorem zss_set {x : Str} {p' : Pos} (i : Nat) (h : ZE X e s r s1) (hi : i < s1.e.length) (k : ZSs X rest ⟨s1.e.set i r, s1.R⟩ P) (hN : X.N.Nodup) (hx : X.N[i]? = some x := by rfl) (hl : Loc X.env.scope x := by first | exact .inl rfl | exact .inr rfl) (hs : swapsWith e (some (.Name x p')) pos.line X.env = pure false := by rfl)
    (hf : X.fn x = true ∨ X.env.scope.names.lookup x = some .local := by first | exact .inl rfl | exact .inr rfl) : ZSs X (.Assign [.Name x p'] e pos :: rest) s P :=
  zss_seq (M := fun t => t = ⟨s1.e.set i r, s1.R⟩) (PS.imp (ps_set hN hx hl h hs hf) fun D σ H ⟨t, T, ρ, e1, hb, g, q⟩ => by
    subst e1
    exact ⟨T, ρ, g, fun v ρ' H' p vr g' => q.nx _ (σ.set i (some v)) ρ' H' rfl ((List.take_prefix _ _).trans p) (g'.put hi vr)⟩) fun t e => by subst e; exact k
theorem zss_never {sts : List Stmt} : PSs X sts (tS X.K (fun _ => False) P) := ⟨fun _ _ _ _ _ _ ⟨_, _, _, h, _⟩ => h.elim⟩
theorem zss_ret (h : ZE X e s r s1) (k : P.rt r s1) : ZSs X (.Return (some e) pos :: rest) s P :=
  zss_seq (M := fun _ => False) (PS.imp (ps_ret h) fun D σ H ⟨t, T, ρ, e1, hb, g, q⟩ => by
    subst e1
    exact ⟨T, ρ, g, fun v ρ' H' p vr g' => q.rt r s1 σ ρ' H' v k ((List.take_prefix _ _).trans p) vr g'⟩) fun t e => e.elim
theorem zss_pass (k : ZSs X rest s P) : ZSs X (.Pass pos :: rest) s P :=
  zss_seq (M := fun t => t = s) (PS.imp ps_pass fun D σ H ⟨t, T, ρ, e1, hb, g, q⟩ => by
    subst e1
    exact q.nx _ σ ρ H rfl (List.take_prefix _ _) g) fun t e => by subst e; exact k
theorem zss_continue (k : P.ct s) : ZSs X (.Continue pos :: rest) s P :=
  zss_seq (M := fun _ => False) (PS.imp ps_continue fun D σ H ⟨t, T, ρ, e1, hb, g, q⟩ => by
    subst e1
    exact q.ct _ σ ρ H k (List.take_prefix _ _) g) fun t e => e.elim
theorem zss_break (k : P.bk s) : ZSs X (.Break pos :: rest) s P :=
  zss_seq (M := fun _ => False) (PS.imp ps_break fun D σ H ⟨t, T, ρ, e1, hb, g, q⟩ => by
    subst e1
    exact q.bk _ σ ρ H k (List.take_prefix _ _) g) fun t e => e.elim
/-- if: M is what stands behind it -/
theorem zss_if (hc : ZT X c s R) (h1 : ∀ t, R true t → ZSs X body t { P with nx := M }) (h2 : ∀ t, R false t → ZSs X orelse t { P with nx := M }) (k : ∀ t, M t → ZSs X rest t P) : ZSs X (.If c body orelse pos :: rest) s P :=
  zss_seq (M := M) (PS.imp (ps_if hc (zss_all h1) (zss_all h2)) fun D σ H ⟨t, T, ρ, e1, hb, g, q⟩ => by
    subst e1
    refine ⟨T, ρ, g, fun b t' ρ' H' hr p g' => ?_⟩
    have z := take_pre p hb
    have z2 : P.b ≤ ρ'.length := Nat.le_trans hb p.length_le
    cases b with
    | true => exact ⟨t', T, ρ', hr, z2, g', by show Meets _ _ (ρ'.take P.b) _ _; rw [z]; exact q⟩
    | false => exact ⟨t', T, ρ', hr, z2, g', by show Meets _ _ (ρ'.take P.b) _ _; rw [z]; exact q⟩) k
/-- .. where the body leaves -/
theorem zss_ifRet (hc : ZT X c s (Is k s1)) (h1 : k = true → ZSs X body s1 { P with nx := fun _ => False }) (h2 : k = false → ZSs X rest s1 P) : ZSs X (.If c body [] pos :: rest) s P := by
  refine zss_if (M := fun t => k = false ∧ t = s1) hc (fun t ⟨e1, e2⟩ => ?_) (fun t ⟨e1, e2⟩ => ?_) fun t ⟨e1, e2⟩ => ?_
  · subst e2
    refine PSs.imp (h1 e1.symm) fun D σ H ⟨t', T, ρ, e1, hb, g, q⟩ => ⟨t', T, ρ, e1, hb, g, ⟨fun s' σ' ρ' H' z => z.elim, q.rt, q.bk, q.ct⟩⟩
  · subst e2
    exact zss_nil ⟨e1.symm, rfl⟩
  · subst e2
    exact h2 e1
/-- .. both ways known -/
theorem zss_ifI (hc : ZT X c s (Is k s1)) (h1 : k = true → ZSs X body s1 { P with nx := M }) (h2 : k = false → ZSs X orelse s1 { P with nx := M }) (h3 : ∀ t, M t → ZSs X rest t P) : ZSs X (.If c body orelse pos :: rest) s P :=
  zss_if (M := M) hc (fun t ⟨e1, e2⟩ => by subst e2; exact h1 e1.symm) (fun t ⟨e1, e2⟩ => by subst e2; exact h2 e1.symm) h3
/-- a list of its own grows: xs.append(e) -/
theorem Sat.putL {K : PySem.W.Frag} {σ : L2.St} {ρ : List V} {T : List En} {H : Hp} {j : Nat} {ds : List PyData} (g : Sat K s σ ρ T H) (hj : s.R[j]? = some (OL ds)) :
    ∃ p vs F, ρ[j]? = some (.ref p) ∧ H p = some (.lst vs) ∧ DpAll K F vs ds ∧ (∀ {x v}, (IT.d x, some v) ∈ T → Dp K F v x) ∧ ∀ ds' vs', DpAll K F vs' ds' → Sat K ⟨s.e, s.R.set j (OL ds')⟩ σ ρ T (upd H p (.lst vs')) := by
  obtain ⟨v, e2, ok, back⟩ := g.obj hj
  obtain ⟨F, f⟩ := ok.fz
  obtain ⟨p, vs, e3, h1, h2, h3⟩ := f.putL (ds' := ds)
  subst e3
  refine ⟨p, vs, F, e2, h1, h2, fun {x v} m => ?_, fun ds' vs' q => back _ _ (h3 ds' vs' q)⟩
  obtain ⟨u, z, d⟩ := f.at (x := x) (v := some v) (List.mem_cons_of_mem _ (List.mem_append_left _ m))
  cases z
  exact d
theorem vrs_one {K : PySem.W.Frag} {σ : L2.St} {ρ : List V} {T : List En} {H : Hp} {vs : List V} {x : PyData} (vr : VRs [.d x] ρ vs) (g : Sat K s σ ρ (its [.d x] vs ++ T) H) : ∃ v, vs = [v] ∧ Sat K s σ ρ ((IT.d x, some v) :: T) H := by
  obtain ⟨v, e, _⟩ := vrs1 vr
  subst e
  exact ⟨v, rfl, g⟩
theorem pe_app {s : S} {j : Nat} {ds ds1 : List PyData} {x : PyData} {apos p2 : Pos} (ha : ZE X a s (.r j) s1) (he : ZA X [e] s1 [.d x] s2) (h1 : s1.R[j]? = some (OL ds1)) (hj : s2.R[j]? = some (OL ds)) (hz : ds.length < sizeLine)
    (hp : ∀ {t1 : TE} {t2 : TA}, PE X a t1 → PA X [e] t2 → PE X (.Call (.Attribute a "append" apos) [e] [] p2) (tBM X.K "list" rAppend t1 t2)) :
    ZE X (.Call (.Attribute a "append" apos) [e] [] p2) s (.d .none) ⟨s2.e, s2.R.set j (OL (ds ++ [x]))⟩ := by
  refine PE.imp (hp ha he) fun σ H Q ⟨T, ρ, g, k⟩ => ⟨T, ρ, g, fun v ρ1 H1 p1 vr1 g1 => ?_⟩
  have y1 := g1.see List.mem_cons_self vr1 (.r h1)
  cases y1 with
  | lst hs _ =>
    refine ⟨.inl ⟨rfl, _, hs⟩, _, ρ1, g1, fun vs ρ2 H2 p2 vr2 g2 => ?_⟩
    obtain ⟨v, e1, g3⟩ := vrs_one vr2 g2
    subst e1
    obtain ⟨p, ws, F, e2, e3, e4, e5, e6⟩ := g3.putL hj
    have ev : V.ref p = V.ref _ := Option.some.inj (e2.symm.trans (vr1.mono p2))
    cases ev
    have hx : Dp X.K F v x := e5 List.mem_cons_self
    refine ⟨_, ws, v, rfl, rfl, e3, by rw [dpsLen e4]; exact hz, k .non ρ2 _ (p1.trans p2) trivial ?_⟩
    exact ((e6 _ _ (dpsApp e4 (.cons hx .nil))).tdrop.tdrop).tflat (show flat .non .none from trivial)
theorem zss_app {j : Nat} {ds ds1 : List PyData} {x : PyData} {apos p2 : Pos} (ha : ZE X a s (.r j) s1) (he : ZE X e s1 (.d x) s2) (h1 : s1.R[j]? = some (OL ds1)) (hj : s2.R[j]? = some (OL ds)) (hz : ds.length < sizeLine) (k : ZSs X rest ⟨s2.e, s2.R.set j (OL (ds ++ [x]))⟩ P)
    (hne : starEach [e] X.env = (false, eval e X.env) :: starEach [] X.env := by rfl)
    (hbase : attributeBase a "append" X.env (eval a X.env) = eval a X.env := by rfl)
    (hfew : ((backTo p2 (starEach (e :: []) X.env)).all (fun x => !x.1) && (backToKw p2 (keywordEach [] X.env)).all (fun x => x.1.isSome)
      && decide ((e :: ([] : List Expr)).length + ([] : List Keyword).length + (if ([] : List Keyword).isEmpty then 0 else 1) < 30)) = true := by rfl)
    (hline : (apos.endLine == p2.line) = true := by rfl) (hplain : (backTo p2 (starEach [] X.env)).any (·.1) = false := by rfl)
    (hs : swapsWith (.Call (.Attribute a "append" apos) [e] [] p2) none pos.line X.env = pure false := by rfl) :
    ZSs X (.Expr (.Call (.Attribute a "append" apos) [e] [] p2) pos :: rest) s P :=
  zss_expr (pe_app ha (za_cons he za_nil hne) h1 hj hz fun h1 h2 => pe_bm PySem.F.plainAttrs_list PySem.F.slot_list_append PySem.F.type_list_append mt_append h1 h2 hbase hfew hline hne hplain) k hs
end
end Z

namespace Z
open PySem L2

/-! ### what is walked -/
def Wk (K : PySem.W.Frag) (J : It) (ds : List PyData) (T0 : List En) : Prop := ∀ l H, OK K (T0 ++ l) H →
  (∀ i x, ds[i]? = some x → J.go i H ∧ ∀ v H', J.yld i H v H' → OK K ((IT.d x, some v) :: (T0 ++ l)) H') ∧ J.stop ds.length H
def tI (K : PySem.W.Frag) (s : S) (ds : List PyData) (s1 : S) : TI := fun σ H R => ∃ T ρ, Sat K s σ ρ T H ∧ ∀ J T0 ρ' H', ρ <+: ρ' → Sat K s1 σ ρ' (T0 ++ T) H' → Wk K J ds T0 → R J H'
def ZI (X : Cx) (tg it : Expr) (s : S) (ds : List PyData) (s1 : S) : Prop := PI X tg it (tI X.K s ds s1)
section
variable {X : Cx} {tg e a b : Expr} {es : List Expr} {s s' s1 s2 : S} {ds : List PyData} {pos p : Pos} {i j : Int}
theorem PI.imp {t t' : TI} (h : PI X tg e t) (k : ∀ σ H Q, t' σ H Q → t σ H Q) : PI X tg e t' := ⟨fun pins s σ H Q I q => h.run pins s σ H Q I (k σ H Q q)⟩
theorem wk_list {K : PySem.W.Frag} {c : Addr} : Wk K (Itl K c) ds [(IT.d (.list ds), some (.ref c))] := fun l H ok => by
  obtain ⟨F, f⟩ := ok.fz
  obtain ⟨u, e1, d⟩ := f.at (x := .list ds) (v := some (.ref c)) List.mem_cons_self
  cases e1
  cases d with
  | lst hs ha =>
    have hs' := f.ext.l hs
    refine ⟨fun i x hx => ?_, _, hs', Nat.le_of_eq (dpsLen ha)⟩
    obtain ⟨v, h1, h2⟩ := dpsGet ha hx
    refine ⟨⟨_, v, hs', h1⟩, fun v' H' ⟨e1, hv⟩ => ?_⟩
    subst e1
    have e2 : v = v' := Option.some.inj (h1.symm.trans (hv _ hs'))
    subst e2
    exact (f.add h2).ok
theorem wk_tup {K : PySem.W.Frag} {c : Addr} : Wk K (Itt K c) ds [(IT.d (.tuple ds), some (.ref c))] := fun l H ok => by
  obtain ⟨F, f⟩ := ok.fz
  obtain ⟨u, e1, d⟩ := f.at (x := .tuple ds) (v := some (.ref c)) List.mem_cons_self
  cases e1
  cases d with
  | tup hs ha =>
    have hs' := f.ext.t hs
    refine ⟨fun i x hx => ?_, _, hs', Nat.le_of_eq (dpsLen ha)⟩
    obtain ⟨v, h1, h2⟩ := dpsGet ha hx
    refine ⟨⟨_, v, hs', h1⟩, fun v' H' ⟨e1, hv⟩ => ?_⟩
    subst e1
    have e2 : v = v' := Option.some.inj (h1.symm.trans (hv _ hs'))
    subst e2
    exact (f.add h2).ok
def rng (lo : Int) (n : Nat) : List PyData := (List.range n).map fun k => .int (lo + (k : Nat))
theorem rng_get {lo : Int} {n k : Nat} {x : PyData} (h : (rng lo n)[k]? = some x) : k < n ∧ x = .int (lo + (k : Nat)) := by
  unfold rng at h
  rw [List.getElem?_map] at h
  cases q : (List.range n)[k]? with
  | none => rw [q] at h; cases h
  | some m =>
    rw [q] at h
    have hk : k < n := by
      have := (List.getElem?_eq_some_iff.mp q).1
      simpa using this
    rw [List.getElem?_range hk] at q
    cases q
    exact ⟨hk, (Option.some.inj h).symm⟩
theorem rng_len {lo : Int} {n : Nat} : (rng lo n).length = n := by unfold rng; simp
theorem wk_rng {K : PySem.W.Frag} {lo : Int} {n : Nat} : Wk K (Itr lo n) (rng lo n) [] := fun l H ok => by
  refine ⟨fun k x hx => ?_, Nat.le_of_eq rng_len.symm⟩
  obtain ⟨h1, h2⟩ := rng_get hx
  subst h2
  refine ⟨h1, fun v H' ⟨e1, e2⟩ => ?_⟩
  subst e1 e2
  exact OK.flat (show flat (.int _) (.int _) from rfl) ok
theorem zi_list (h : ZE X e s (.d (.list ds)) s1) : ZI X tg e s ds s1 := PI.imp (pi_list h) fun σ H R ⟨T, ρ, g, k⟩ => ⟨T, ρ, g, fun v ρ' H' p vr g' => by
  obtain ⟨F, a, vs, e1, hs, ha, f⟩ := g'.seeL (r := .d (.list ds)) List.mem_cons_self trivial (.d _)
  subst e1
  exact ⟨a, rfl, ⟨vs, hs⟩, k _ [(IT.d (.list ds), some (.ref a))] ρ' H' p g' wk_list⟩⟩
theorem zi_tup (h : ZE X e s (.d (.tuple ds)) s1) : ZI X tg e s ds s1 := PI.imp (pi_tup h) fun σ H R ⟨T, ρ, g, k⟩ => ⟨T, ρ, g, fun v ρ' H' p vr g' => by
  obtain ⟨F, a, vs, e1, hs, ha, f⟩ := g'.seeT (r := .d (.tuple ds)) List.mem_cons_self (.d _)
  subst e1
  exact ⟨a, rfl, ⟨vs, hs⟩, k _ [(IT.d (.tuple ds), some (.ref a))] ρ' H' p g' wk_tup⟩⟩
theorem zi_rng1 (h : ZA X [a] s [.d (.int j)] s1) (hj : -(2 ^ 62) ≤ j ∧ j < 2 ^ 62) (hm : X.mg "range" = none) (hg : Gl X "range" := by rfl) (hs : starEach [a] X.env = [(false, eval a X.env)] := by rfl) : ZI X tg (.Call (.Name "range" p) [a] [] pos) s (rng 0 j.toNat) s1 :=
  PI.imp (pi_range1 hg hm h hs) fun σ H R ⟨T, ρ, g, k⟩ => ⟨T, ρ, g, fun vs ρ' H' p vr g' => by
    obtain ⟨v, e1, _⟩ := vrs1 vr
    subst e1
    have e2 := see_int (i := j) (v := v) g' List.mem_cons_self
    subst e2
    exact ⟨j, rfl, hj.1, hj.2, k _ [] ρ' H' p (Sat.tdrop (x := (IT.d (.int j), some (V.int j))) g') wk_rng⟩⟩
theorem zi_rng2 (h : ZA X [a, b] s [.d (.int i), .d (.int j)] s1) (hj : -(2 ^ 62) ≤ i ∧ i < 2 ^ 62 ∧ -(2 ^ 62) ≤ j ∧ j < 2 ^ 62) (hm : X.mg "range" = none) (hg : Gl X "range" := by rfl) (hs : starEach [a, b] X.env = [(false, eval a X.env), (false, eval b X.env)] := by rfl)
    (hs2 : starEach [b] X.env = [(false, eval b X.env)] := by rfl) : ZI X tg (.Call (.Name "range" p) [a, b] [] pos) s (rng i (j - i).toNat) s1 :=
  PI.imp (pi_range2 hg hm h hs hs2) fun σ H R ⟨T, ρ, g, k⟩ => ⟨T, ρ, g, fun vs ρ' H' p vr g' => by
    obtain ⟨v, w, e1, _⟩ := vrs2 vr
    subst e1
    have e2 := see_int (i := i) (v := v) g' List.mem_cons_self
    have e3 := see_int (i := j) (v := w) g' (List.mem_cons_of_mem _ List.mem_cons_self)
    subst e2 e3
    exact ⟨i, j, rfl, hj, k _ [] ρ' H' p (Sat.tdrop (x := (IT.d (.int j), some (V.int j))) (Sat.tdrop (x := (IT.d (.int i), some (V.int i))) g')) wk_rng⟩⟩

/-! ### targets -/
/-- but for the slots at vs -/
def offv (vs : List Nat) (σ σ' : L2.St) : Prop := σ'.length = σ.length ∧ ∀ k, k ∉ vs → σ'[k]? = σ[k]?
def tG (K : PySem.W.Frag) (vs : List Nat) (x : PyData) (s s' : S) : TG := fun v σ H Q => ∃ T ρ, Sat K s σ ρ ((IT.d x, some v) :: T) H ∧ ∀ σ', offv vs σ σ' → Sat K s' σ' ρ T H → Q σ' H
def ZG (X : Cx) (tg : Expr) (vs : List Nat) (x : PyData) (s s' : S) : Prop := PG X tg (tG X.K vs x s s')
def tGs (K : PySem.W.Frag) (vs : List Nat) (xs : List PyData) (s s' : S) : TGs := fun us σ H Q => ∃ T ρ, xs.length = us.length ∧ Sat K s σ ρ (ds2 xs us ++ T) H ∧ ∀ σ', offv vs σ σ' → Sat K s' σ' ρ T H → Q σ' H
def ZGs (X : Cx) (tgs : List Expr) (vs : List Nat) (xs : List PyData) (s s' : S) : Prop := PGs X tgs (tGs X.K vs xs s s')
theorem PG.imp {t t' : TG} (h : PG X tg t) (k : ∀ v σ H Q, t' v σ H Q → t v σ H Q) : PG X tg t' := ⟨fun pins s σ H v u Q I r q => h.run pins s σ H v u Q I r (k v σ H Q q)⟩
theorem PGs.imp {tgs : List Expr} {t t' : TGs} (h : PGs X tgs t) (k : ∀ v σ H Q, t' v σ H Q → t v σ H Q) : PGs X tgs t' := ⟨fun pins s σ H v u Q I r q => h.run pins s σ H v u Q I r (k v σ H Q q)⟩
theorem offv_set {vs : List Nat} {σ : L2.St} {k : Nat} {v : Option V} (h : k ∈ vs) : offv vs σ (σ.set k v) := ⟨by simp, fun m hm => by
  rw [List.getElem?_set_ne]
  rintro rfl
  exact hm h⟩
theorem offv.trans {vs : List Nat} {σ σ' σ2 : L2.St} (h : offv vs σ σ') (h2 : offv vs σ' σ2) : offv vs σ σ2 := ⟨h2.1.trans h.1, fun k hk => (h2.2 k hk).trans (h.2 k hk)⟩
theorem zg_name {y : Str} {vs : List Nat} {x : PyData} (k : Nat) (hk : k < s.e.length) (hN : X.N.Nodup) (hv : k ∈ vs := by simp) (hi : X.N[k]? = some y := by rfl) (hx : Loc X.env.scope y := by first | exact .inl rfl | exact .inr rfl)
    (hf : X.fn y = true ∨ X.env.scope.names.lookup y = some .local := by first | exact .inl rfl | exact .inr rfl) : ZG X (.Name y pos) vs x s ⟨s.e.set k (.d x), s.R⟩ :=
  PG.imp (pg_name hN hi hx hf) fun v σ H Q ⟨T, ρ, g, q⟩ => q _ (offv_set hv) (g.put (r := .d x) hk trivial)
theorem zgs_nil {vs : List Nat} : ZGs X [] vs [] s s := PGs.imp pgs_nil fun us σ H Q ⟨T, ρ, hl, g, q⟩ => by
  cases us with
  | nil => exact ⟨rfl, q σ ⟨rfl, fun _ _ => rfl⟩ g⟩
  | cons u us => simp at hl
theorem zgs_cons {vs : List Nat} {x : PyData} {xs : List PyData} {t : Expr} {ts : List Expr} (h1 : ZG X t vs x s s1) (h2 : ZGs X ts vs xs s1 s2) (hs : (assignEach (t :: ts) X.env).map (·.2) = assign t X.env :: (assignEach ts X.env).map (·.2) := by rfl) : ZGs X (t :: ts) vs (x :: xs) s s2 :=
  PGs.imp (pgs_cons h1 h2 hs) fun us σ H Q ⟨T, ρ, hl, g, q⟩ => by
    cases us with
    | nil => simp at hl
    | cons u us =>
      exact ⟨u, us, rfl, ds2 xs us ++ T, ρ, g, fun σ' o g' => ⟨T, ρ, by simpa using hl, g', fun σ2 o2 g2 => q σ2 (o.trans o2) g2⟩⟩
theorem Sat.openT {K : PySem.W.Frag} {σ : L2.St} {ρ : List V} {T : List En} {H : Hp} {v : V} (g : Sat K s σ ρ ((IT.d (.tuple ds), some v) :: T) H) : ∃ c vs, v = .ref c ∧ SqT K H c vs ∧ ds.length = vs.length ∧ Sat K s σ ρ (ds2 ds vs ++ T) H := by
  obtain ⟨F, c, vs, e1, hs, ha, f⟩ := g.seeT (r := .d (.tuple ds)) List.mem_cons_self (.d _)
  refine ⟨c, vs, e1, hs, (dpsLen ha).symm, g.le, g.lr, g.al, ?_⟩
  rw [List.append_assoc]
  have add : ∀ {ds : List PyData} {vs : List V} {l : List En}, DpAll K F vs ds → Fz K F l H → Fz K F (ds2 ds vs ++ l) H := by
    intro ds
    induction ds with
    | nil => intro vs l h f; cases h; exact f
    | cons d ds ih =>
      intro vs l h f
      cases h with
      | cons h1 h2 => exact (ih h2 f).add h1
  exact (add ha f.tail).ok
theorem zg_tup {vs : List Nat} {ts : List Expr} {k : Nat} (h : ZGs X ts vs ds s s') (hl : ts.length = ds.length := by rfl) (hc : X.calm = true := by rfl) (hn : (assignEach ts X.env).length = ds.length := by rfl) (hst : (assignEach ts X.env).findIdx? (·.1) = none := by rfl) : ZG X (.Tuple ts k pos) vs (.tuple ds) s s' :=
  PG.imp (pg_tup hc h hn hst) fun v σ H Q ⟨T, ρ, g, q⟩ => by
    obtain ⟨c, us, e1, hs, hl, g'⟩ := g.openT
    subst e1
    exact ⟨c, us, rfl, hs, hl.symm, T, ρ, hl, g', q⟩

/-! ### loops -/
variable {rest body : List Stmt} {P : Po} {M : S → Prop}
/-- families of goals, of blocks -/
theorem pss_fam {sts : List Stmt} (fam : S → Po → Prop) (h : ∀ t Q, fam t Q → ZSs X sts t Q) : PSs X sts (fun D σ H => ∃ t Q T ρ, fam t Q ∧ Q.b ≤ ρ.length ∧ Sat X.K t σ ρ T H ∧ Meets X.K Q (ρ.take Q.b) T D) :=
  ⟨fun pins sh σ H D I ⟨t, Q, T, ρ, m, hb, g, q⟩ => (h t Q m).run pins sh σ H D I ⟨t, T, ρ, rfl, hb, g, q⟩⟩
theorem pg_fam (vs : List Nat) (fam : PyData → S → S → Prop) (h : ∀ x t t', fam x t t' → ZG X tg vs x t t') : PG X tg (fun v σ H Q => ∃ x t t', fam x t t' ∧ tG X.K vs x t t' v σ H Q) :=
  ⟨fun pins sh σ H v u Q I r ⟨x, t, t', m, q⟩ => (h x t t' m).run pins sh σ H v u Q I r q⟩
theorem pt_fam (fam : S → (Bool → S → Prop) → Prop) (h : ∀ t R, fam t R → ZT X e t R) : PT X e (fun σ H Q => ∃ t R, fam t R ∧ tT X.K t R σ H Q) :=
  ⟨fun pins sh σ H Q I ⟨t, R, m, q⟩ => (h t R m).run pins sh σ H Q I q⟩
/-- what one turn of a for is -/
structure Turn1 (X : Cx) (tg : Expr) (body : List Stmt) (x : PyData) (t : S) (Q : Po) : Prop where
  go : ∃ vs t', ZG X tg vs x t t' ∧ ZSs X body t' Q
theorem zss_for {it : Expr} {vs : List Nat} (hi : ZI X tg it s ds s1) (nb : Nat) (hb : P.b ≤ nb) (hnb : nb ≤ s1.R.length) (Iv : Nat → S → Prop) (h0 : Iv 0 s1)
    (turn : ∀ i x t, ds[i]? = some x → Iv i t → ∃ t', ZG X tg vs x t t' ∧ ZSs X body t' { b := nb, nx := Iv (i + 1), rt := P.rt, bk := M, ct := Iv (i + 1) }) (hd : ∀ t, Iv ds.length t → M t) (k : ∀ t, M t → ZSs X rest t P)
    (hp : PassesOwn (model X.prog X.w) X.A X.env X.xe) (hc : X.calm = true := by rfl) (hs : ∀ x, foldedSetIterable it X.env x = pure x := by intro _; rfl) : ZSs X (.For tg it body [] pos :: rest) s P := by
  refine zss_seq (M := M) (PS.imp (ps_for hp hc hi (pg_fam vs (fun x t t' => ∃ i, ds[i]? = some x ∧ Iv i t ∧ ZG X tg vs x t t' ∧ ZSs X body t' { b := nb, nx := Iv (i + 1), rt := P.rt, bk := M, ct := Iv (i + 1) }) fun x t t' ⟨i, _, _, h, _⟩ => h)
    (pss_fam (fun t Q => ZSs X body t Q) fun t Q h => h) hs) fun D σ H ⟨t, T, ρ, e1, hb0, g, q⟩ => ?_) k
  subst e1
  refine ⟨T, ρ, g, fun J T0 ρ1 H1 p1 g1 w => ?_⟩
  have hr1 : nb ≤ ρ1.length := by rw [← g1.lr]; exact hnb
  have base : ∀ {ρ2 : List V}, ρ1.take nb <+: ρ2 → ρ.take P.b <+: ρ2 := fun p2 => by
    have z : ρ.take P.b = (ρ1.take nb).take P.b := by
      rw [List.take_take, Nat.min_eq_left hb]
      exact (take_pre p1 hb0).symm
    rw [z]
    exact (List.take_prefix _ _).trans p2
  refine ⟨fun i m σ' H' => m = ds.length - i ∧ i ≤ ds.length ∧ ∃ t ρ2, Iv i t ∧ ρ1.take nb <+: ρ2 ∧ Sat X.K t σ' ρ2 (T0 ++ T) H', ⟨_, rfl, Nat.zero_le _, s1, ρ1, h0, List.take_prefix _ _, g1⟩, ?_⟩
  rintro i m σ' H' ⟨rfl, hi', t, ρ2, iv, p2, g2⟩
  obtain ⟨w1, w2⟩ := w (T ++ (ES t.e σ' ++ RS t.R ρ2)) H' (by rw [← List.append_assoc]; exact g2.ok)
  by_cases hlt : i < ds.length
  · obtain ⟨go, yl⟩ := w1 i ds[i] (List.getElem?_eq_getElem hlt)
    refine .inr ⟨go, fun σ3 H3 => ∃ t ρ3, Iv (i + 1) t ∧ ρ1.take nb <+: ρ3 ∧ Sat X.K t σ3 ρ3 (T0 ++ T) H3, fun σ3 H3 ⟨t3, ρ3, a1, a2, a3⟩ => ⟨ds.length - (i + 1), by omega, rfl, hlt, t3, ρ3, a1, a2, a3⟩, fun v H4 y => ?_⟩
    have ok := yl v H4 y
    have g4 : Sat X.K t σ' ρ2 ((IT.d ds[i], some v) :: (T0 ++ T)) H4 := ⟨g2.le, g2.lr, g2.al, by
      rw [← List.append_assoc] at ok
      exact ok⟩
    obtain ⟨t', hg, hbody⟩ := turn i ds[i] t (List.getElem?_eq_getElem hlt) iv
    refine ⟨ds[i], t, t', ⟨i, List.getElem?_eq_getElem hlt, iv, hg, hbody⟩, T0 ++ T, ρ2, g4, fun σ5 o g5 => ?_⟩
    obtain ⟨z1, z2⟩ := take_pre' p2 hr1
    refine ⟨t', _, T0 ++ T, ρ2, hbody, z2, g5, ⟨fun s' σ'' ρ' H' a p g' => ?_, fun r s' σ'' ρ' H' v a p vr g' => ?_, fun s' σ'' ρ' H' a p g' => ?_, fun s' σ'' ρ' H' a p g' => ?_⟩⟩
    · exact ⟨s', ρ', a, by rw [← z1]; exact p, g'⟩
    · refine q.rt r s' σ'' ρ' H' v a (base (by rw [← z1]; exact p)) vr ?_
      have gp : Sat X.K s' σ'' ρ' (T0 ++ ((itOf r, some v) :: T)) H' := g'.tperm (List.perm_middle.symm)
      exact gp.tdrops
    · exact q.nx s' σ'' ρ' H' a (base (by rw [← z1]; exact p)) g'.tdrops
    · exact ⟨s', ρ', a, by rw [← z1]; exact p, g'⟩
  · have e : i = ds.length := by omega
    subst e
    exact .inl ⟨w2, q.nx t σ' ρ2 H' (hd t iv) (base p2) g2.tdrops⟩
theorem zss_while {c : Expr} (nb : Nat) (hb : P.b ≤ nb) (hnb : nb ≤ s.R.length) (Iv : Nat → S → Prop) (m0 : Nat) (h0 : Iv m0 s)
    (turn : ∀ m t, Iv m t → ∃ R, ZT X c t R ∧ (∀ t', R true t' → ZSs X body t' { b := nb, nx := fun u => ∃ m', m' < m ∧ Iv m' u, rt := P.rt, bk := M, ct := fun u => ∃ m', m' < m ∧ Iv m' u }) ∧ ∀ t', R false t' → M t') (k : ∀ t, M t → ZSs X rest t P)
    (hp : PassesOwn (model X.prog X.w) X.A X.env X.xe) : ZSs X (.While c body [] pos :: rest) s P := by
  refine zss_seq (M := M) (PS.imp (ps_while hp (pt_fam (fun t R => ZT X c t R) fun t R h => h) (pss_fam (fun t Q => ZSs X body t Q) fun t Q h => h)) fun D σ H ⟨t, T, ρ, e1, hb0, g, q⟩ => ?_) k
  subst e1
  have hr1 : nb ≤ ρ.length := by rw [← g.lr]; exact hnb
  have base : ∀ {ρ2 : List V}, ρ.take nb <+: ρ2 → ρ.take P.b <+: ρ2 := fun p2 => by
    have z : ρ.take P.b = (ρ.take nb).take P.b := by rw [List.take_take, Nat.min_eq_left hb]
    rw [z]
    exact (List.take_prefix _ _).trans p2
  refine ⟨fun m σ' H' => ∃ t ρ2, Iv m t ∧ ρ.take nb <+: ρ2 ∧ Sat X.K t σ' ρ2 T H', ⟨m0, _, ρ, h0, List.take_prefix _ _, g⟩, ?_⟩
  rintro m σ' H' ⟨t, ρ2, iv, p2, g2⟩
  obtain ⟨R, ht, h1, h2⟩ := turn m t iv
  obtain ⟨z1, z2⟩ := take_pre' p2 hr1
  refine ⟨t, R, ht, T, ρ2, g2, fun b t' ρ3 H3 hr p3 g3 => ?_⟩
  have p4 : ρ.take nb <+: ρ3 := p2.trans p3
  obtain ⟨z3, z4⟩ := take_pre' p4 hr1
  cases b with
  | true =>
    refine ⟨fun σ5 H5 => ∃ m', m' < m ∧ ∃ t ρ5, Iv m' t ∧ ρ.take nb <+: ρ5 ∧ Sat X.K t σ5 ρ5 T H5, fun σ5 H5 ⟨m', l, w⟩ => ⟨m', l, w⟩, t', _, T, ρ3, h1 t' hr, z4, g3, ⟨fun s' σ'' ρ' H' a p g' => ?_, fun r s' σ'' ρ' H' v a p vr g' => ?_, fun s' σ'' ρ' H' a p g' => ?_, fun s' σ'' ρ' H' a p g' => ?_⟩⟩
    · obtain ⟨m', l, a⟩ := a
      exact ⟨m', l, s', ρ', a, by rw [← z3]; exact p, g'⟩
    · exact q.rt r s' σ'' ρ' H' v a (base (by rw [← z3]; exact p)) vr g'
    · exact q.nx s' σ'' ρ' H' a (base (by rw [← z3]; exact p)) g'
    · obtain ⟨m', l, a⟩ := a
      exact ⟨m', l, s', ρ', a, by rw [← z3]; exact p, g'⟩
  | false => exact q.nx t' σ' ρ3 H3 (h2 t' hr) (base p4) g3
end
end Z

namespace Z
open PySem L2

/-! ### a comprehension's block -/
def wipeE (e : List SD) : List Nat → List SD
  | [] => e
  | v :: vs => (wipeE e vs).set v .un
theorem wipeE_len (e : List SD) : ∀ vs : List Nat, (wipeE e vs).length = e.length
  | [] => rfl
  | v :: vs => by unfold wipeE; rw [List.length_set, wipeE_len e vs]
theorem wipeE_get {e : List SD} {i : Nat} {a : SD} : ∀ {vs : List Nat}, (wipeE e vs)[i]? = some a → a = .un ∨ (e[i]? = some a ∧ i ∉ vs)
  | [], h => .inr ⟨h, by simp⟩
  | v :: vs, h => by
    unfold wipeE at h
    by_cases hi : i = v
    · subst hi
      by_cases hv : i < (wipeE e vs).length
      · rw [List.getElem?_set_self hv] at h
        exact .inl (Option.some.inj h).symm
      · rw [List.getElem?_eq_none (by simpa using hv)] at h
        cases h
    · rw [List.getElem?_set_ne (Ne.symm hi)] at h
      rcases wipeE_get h with z | ⟨z1, z2⟩
      · exact .inl z
      · exact .inr ⟨z1, by simp only [List.mem_cons, not_or]; exact ⟨hi, z2⟩⟩
theorem wipe_keep {σ : L2.St} {i : Nat} : ∀ {vs : List Nat}, i ∉ vs → (wipe σ vs)[i]? = σ[i]?
  | [], _ => rfl
  | v :: vs, h => by
    simp only [List.mem_cons, not_or] at h
    unfold wipe
    rw [List.getElem?_set_ne (Ne.symm h.1)]
    exact wipe_keep h.2
theorem wipe_at {σ : L2.St} {i : Nat} (hi : i < σ.length) : ∀ {vs : List Nat}, i ∈ vs → (wipe σ vs)[i]? = some none
  | [], h => by simp at h
  | v :: vs, h => by
    unfold wipe
    by_cases e : i = v
    · subst e
      rw [List.getElem?_set_self (by rw [wipe_length]; exact hi)]
    · rw [List.getElem?_set_ne (Ne.symm e)]
      exact wipe_at hi (by simpa [e] using h)
theorem wipe_off {σ σ' : L2.St} {vs : List Nat} (h : offv vs (wipe σ vs) σ') : wipe σ' vs = wipe σ vs := by
  have hl : σ'.length = σ.length := by rw [h.1, wipe_length]
  apply List.ext_getElem?
  intro i
  by_cases hv : i ∈ vs
  · by_cases hi : i < σ.length
    · rw [wipe_at (by omega) hv, wipe_at hi hv]
    · rw [List.getElem?_eq_none (by rw [wipe_length]; omega), List.getElem?_eq_none (by rw [wipe_length]; omega)]
  · rw [wipe_keep hv, h.2 i hv]
section
variable {K : PySem.W.Frag} {H F : Hp} {T l : List En} {σ : L2.St} {ρ : List V} {s : S}
theorem Fz.es : ∀ {e : List SD} {σ : L2.St} {l : List En}, e.length = σ.length → (∀ (i : Nat) (x : PyData) (v : Option V), e[i]? = some (SD.d x) → σ[i]? = some v → ∃ u, v = some u ∧ Dp K F u x) → Fz K F l H → Fz K F (ES e σ ++ l) H
  | [], _, _, _, _, f => f
  | a :: e, [], _, hl, _, _ => by simp at hl
  | a :: e, v :: σ, l, hl, h, f => by
    have ih := Fz.es (e := e) (σ := σ) (l := l) (by simpa using hl) (fun i x w h1 h2 => h (i + 1) x w (by simpa using h1) (by simpa using h2)) f
    show Fz K F ((itOf a, v) :: (ES e σ ++ l)) H
    cases a with
    | d x =>
      obtain ⟨u, e1, hd⟩ := h 0 x v rfl rfl
      subst e1
      exact ih.add hd
    | un => exact ih.un
    | r j => exact ih.un
theorem es_set {e : List SD} {σ : L2.St} (hl : e.length = σ.length) (i : Nat) (a : SD) (v : Option V) : ES (e.set i a) (σ.set i v) = (ES e σ).set i (itOf a, v) := by
  unfold ES
  apply List.ext_getElem?
  intro k
  rw [List.getElem?_zipWith]
  by_cases hk : k = i
  · subst hk
    by_cases hi : k < e.length
    · rw [List.getElem?_set_self hi, List.getElem?_set_self (by omega), List.getElem?_set_self (by rw [List.length_zipWith]; omega)]
    · rw [List.set_eq_of_length_le (by omega), List.set_eq_of_length_le (by omega), List.set_eq_of_length_le (by rw [List.length_zipWith]; omega), List.getElem?_zipWith]
  · rw [List.getElem?_set_ne (Ne.symm hk), List.getElem?_set_ne (Ne.symm hk), List.getElem?_set_ne (Ne.symm hk), List.getElem?_zipWith]
theorem OK.wipe {e : List SD} {σ : L2.St} (hl : e.length = σ.length) (h : OK K (T ++ (ES e σ ++ l)) H) : ∀ vs : List Nat, OK K (T ++ (ES (wipeE e vs) (L2.wipe σ vs) ++ l)) H
  | [] => h
  | v :: vs => by
    have ih := OK.wipe hl h vs
    unfold wipeE L2.wipe
    rw [es_set (by rw [wipeE_len, wipe_length]; exact hl)]
    by_cases hv : v < (ES (wipeE e vs) (L2.wipe σ vs)).length
    · have k := (ih.un (v := none)).set (T.length + v)
      rw [List.set_append_right _ _ (Nat.le_add_right _ _), Nat.add_sub_cancel_left, List.set_append_left _ _ hv] at k
      exact k
    · rw [List.set_eq_of_length_le (by omega)]
      exact ih
theorem cas {α : Type} (a b c : List α) : (a ++ (b ++ c)).Perm (b ++ (a ++ c)) := by
  rw [← List.append_assoc, ← List.append_assoc]
  exact List.Perm.append_right _ List.perm_append_comm
/-- into the block -/
theorem Sat.blk (g : Sat K s σ ρ T H) (vs : List Nat) : Sat K ⟨wipeE s.e vs, s.R⟩ (L2.wipe σ vs) ρ (ES s.e σ ++ T) H := by
  refine ⟨by rw [wipeE_len, wipe_length]; exact g.le, g.lr, fun i j e => ?_, ?_⟩
  · rcases wipeE_get e with z | ⟨z1, z2⟩
    · cases z
    · obtain ⟨v, e1, e2⟩ := g.al i j z1
      exact ⟨v, by rw [wipe_keep z2]; exact e1, e2⟩
  · obtain ⟨F, f⟩ := g.ok.fz
    have f2 : Fz K F (ES s.e σ ++ (T ++ (ES s.e σ ++ RS s.R ρ))) H := Fz.es g.le (fun i x v h1 h2 => f.at (List.mem_append_right _ (List.mem_append_left _ (List.mem_of_getElem? (es_get h1 h2))))) f
    have ok : OK K ((ES s.e σ ++ T) ++ (ES s.e σ ++ RS s.R ρ)) H := by rw [List.append_assoc]; exact f2.ok
    exact OK.wipe g.le ok vs
/-- out of it -/
theorem Sat.unblk {R : List Own} {ρ' : List V} {e' : List SD} {σ' : L2.St} {A : List En} (g : Sat K s σ ρ T H) {H' : Hp} {T' : List En} (p : ρ <+: ρ') (h : Sat K ⟨e', R⟩ σ' ρ' (A ++ (ES s.e σ ++ T')) H') : Sat K ⟨s.e, R⟩ σ ρ' (A ++ T') H' := by
  refine ⟨g.le, h.lr, fun i j e => ?_, ?_⟩
  · obtain ⟨v, e1, e2⟩ := g.al i j e
    exact ⟨v, e1, VR.mono (r := .r j) e2 p⟩
  · have k : OK K ((A ++ (ES s.e σ ++ T')) ++ (ES e' σ' ++ RS R ρ')) H' := h.ok
    have k2 : OK K (ES e' σ' ++ ((A ++ T') ++ (ES s.e σ ++ RS R ρ'))) H' := by
      refine k.perm ?_
      simp only [List.append_assoc]
      have q1 : (ES s.e σ ++ (T' ++ (ES e' σ' ++ RS R ρ'))).Perm (ES e' σ' ++ (T' ++ (ES s.e σ ++ RS R ρ'))) :=
        (cas _ _ _).trans (((cas (ES s.e σ) (ES e' σ') (RS R ρ')).append_left T').trans (cas _ _ _))
      exact (q1.append_left A).trans (cas _ _ _)
    exact k2.right
end
def ZTs (X : Cx) (ifs : List Expr) (s : S) (R : Bool → S → Prop) : Prop := PTs X ifs (tT X.K s R)
section
variable {X : Cx} {tg e a b elt iter : Expr} {es ifs : List Expr} {s s' s1 s2 : S} {ds : List PyData} {pos p : Pos} {i j : Int}
theorem zts_nil : ZTs X [] s (Is true s) := ⟨fun pins sh σ H Q I ⟨T, ρ, g, q⟩ => pts_nil.run pins sh σ H Q I (q true s ρ H ⟨rfl, rfl⟩ (pre_refl ρ) g)⟩
theorem zts_one {R : Bool → S → Prop} {c : Expr} (h : ZT X c s R) : ZTs X [c] s R := pts_one h
abbrev bl (X : Cx) (scope : Scope) (z : Shared × Hp × Addr × List (Str × Addr) × List Addr) : Cx := X.blk z.1 z.2.1 scope (compEnvC scope z.2.2.2.1 z.2.2.1 X.env) z.2.2.2.2
theorem lc_run {scope : Scope} {own : List (Str × Nat)} {vs : List Nat} (hvs : own.map (·.2) = vs) (Iv : Nat → List PyData → List Own → Prop) (h0 : Iv 0 [] s1.R)
    (turn : ∀ i x acc R, ds[i]? = some x → Iv i acc R → ∃ t' Rt, (∀ z, ZG (bl X scope z) tg vs x ⟨wipeE s1.e vs, R⟩ t') ∧ (∀ z, ZTs (bl X scope z) ifs t' Rt) ∧ (∀ t2, Rt false t2 → Iv (i + 1) acc t2.R) ∧
      ∀ t2, Rt true t2 → ∃ y t3, (∀ z, ZE (bl X scope z) elt t2 (.d y) t3) ∧ Iv (i + 1) (acc ++ [y]) t3.R) (hsz : ds.length < sizeLine)
    (hi : ZI X tg iter s ds s1) (hN : X.N.Nodup) (hc : X.calm = true) (ok : BlkOk X.N X.env.scope scope own) (hs : ∀ x, foldedSetIterable iter X.env x = pure x) :
    ∃ te, (PE X (.ListComp elt [⟨tg, iter, ifs, 0⟩] scope pos) te ∧ ∀ (i : Nat) (y : Str) (py spos : Pos), X.N[i]? = some y → X.env.scope.names.lookup y = some .local → swapsWith (.ListComp elt [⟨tg, iter, ifs, 0⟩] scope pos) (some (.Name y py)) spos.line X.env = pure true → PS X (.Assign [.Name y py] (.ListComp elt [⟨tg, iter, ifs, 0⟩] scope pos) spos) (tAsg te (gName i))) ∧ ∀ T σ ρ H Q, Sat X.K s σ ρ T H →
      (∀ acc R ρ' D H', Iv ds.length acc R → ρ <+: ρ' → Sat X.K ⟨s1.e, R⟩ σ ρ' ((IT.o (OL acc), some (.ref D)) :: T) H' → Q (.ref D) H') → te σ H Q := by
  subst hvs
  have hg : ∀ (sh : Shared) (H : Hp) (C : Addr) (cl : List (Str × Addr)) (fp : List Addr), PG (X.blk sh H scope (compEnvC scope cl C X.env) fp) tg (fun v σ H Q => ∃ x t t', (∀ z, ZG (bl X scope z) tg (own.map (·.2)) x t t') ∧ tG X.K (own.map (·.2)) x t t' v σ H Q) := fun sh H C cl fp =>
    ⟨fun pins sh' σ H' v u Q I r ⟨x, t, t', m, q⟩ => (m (sh, H, C, cl, fp)).run pins sh' σ H' v u Q I r q⟩
  have ht : ∀ (sh : Shared) (H : Hp) (C : Addr) (cl : List (Str × Addr)) (fp : List Addr), PTs (X.blk sh H scope (compEnvC scope cl C X.env) fp) ifs (fun σ H Q => ∃ t R, (∀ z, ZTs (bl X scope z) ifs t R) ∧ tT X.K t R σ H Q) := fun sh H C cl fp =>
    ⟨fun pins sh' σ H' Q I ⟨t, R, m, q⟩ => (m (sh, H, C, cl, fp)).run pins sh' σ H' Q I q⟩
  have he : ∀ (sh : Shared) (H : Hp) (C : Addr) (cl : List (Str × Addr)) (fp : List Addr), PE (X.blk sh H scope (compEnvC scope cl C X.env) fp) elt (fun σ H Q => ∃ t y t', (∀ z, ZE (bl X scope z) elt t (.d y) t') ∧ tE X.K t (.d y) t' σ H Q) := fun sh H C cl fp =>
    ⟨fun pins sh' σ H' Q I ⟨t, y, t', m, q⟩ => (m (sh, H, C, cl, fp)).run pins sh' σ H' Q I q⟩
  refine ⟨_, ⟨pe_lc hc hN hi ok hg ht he hs, fun i y py spos hy hyl hsw => ps_setLc hc hN hy hyl hsw hi ok hg ht he hs⟩, fun T σ ρ H Q g fin => ?_⟩
  refine ⟨T, ρ, g, fun J T0 ρ1 H1 p1 g1 w D hD => ?_⟩
  -- the block's start
  have gb := g1.blk (own.map (·.2))
  have gD : Sat X.K ⟨wipeE s1.e (own.map (·.2)), s1.R⟩ (wipe σ (own.map (·.2))) ρ1 ((IT.o (OL []), some (.ref D)) :: (ES s1.e σ ++ (T0 ++ T))) (upd H1 D (.lst [])) := by
    obtain ⟨F, f⟩ := gb.ok.fz
    exact gb.of (f.lstO (ds := []) (vs := []) .nil hD)
  refine ⟨fun i m H' => m = ds.length - i ∧ i ≤ ds.length ∧ ∃ acc R ρ', Iv i acc R ∧ acc.length ≤ i ∧ ρ1 <+: ρ' ∧ Sat X.K ⟨wipeE s1.e (own.map (·.2)), R⟩ (wipe σ (own.map (·.2))) ρ' ((IT.o (OL acc), some (.ref D)) :: (ES s1.e σ ++ (T0 ++ T))) H', ⟨_, rfl, Nat.zero_le _, [], s1.R, ρ1, h0, Nat.le_refl _, pre_refl _, gD⟩, ?_⟩
  rintro i m H' ⟨rfl, hi', acc, R, ρ', iv, hacc, p', g'⟩
  have okw : OK X.K (T0 ++ ((IT.o (OL acc), some (.ref D)) :: (ES s1.e σ ++ T) ++ (ES (wipeE s1.e (own.map (·.2))) (wipe σ (own.map (·.2))) ++ RS R ρ'))) H' := by
    refine g'.ok.perm ?_
    show ([(IT.o (OL acc), some (V.ref D))] ++ (ES s1.e σ ++ (T0 ++ T)) ++ (ES (wipeE s1.e (own.map (·.2))) (wipe σ (own.map (·.2))) ++ RS R ρ')).Perm (T0 ++ ([(IT.o (OL acc), some (V.ref D))] ++ (ES s1.e σ ++ T) ++ (ES (wipeE s1.e (own.map (·.2))) (wipe σ (own.map (·.2))) ++ RS R ρ')))
    simp only [List.append_assoc]
    exact ((cas (ES s1.e σ) T0 _).append_left _).trans (cas _ _ _)
  obtain ⟨w1, w2⟩ := w _ H' okw
  by_cases hlt : i < ds.length
  · obtain ⟨go, yl⟩ := w1 i ds[i] (List.getElem?_eq_getElem hlt)
    obtain ⟨t', Rt, hG, hT, hF, hE⟩ := turn i ds[i] acc R (List.getElem?_eq_getElem hlt) iv
    refine .inr ⟨go, fun H3 => ∃ acc R ρ', Iv (i + 1) acc R ∧ acc.length ≤ i + 1 ∧ ρ1 <+: ρ' ∧ Sat X.K ⟨wipeE s1.e (own.map (·.2)), R⟩ (wipe σ (own.map (·.2))) ρ' ((IT.o (OL acc), some (.ref D)) :: (ES s1.e σ ++ (T0 ++ T))) H3,
      fun H3 ⟨a1, a2, a3, a4⟩ => ⟨ds.length - (i + 1), by omega, rfl, hlt, a1, a2, a3, a4⟩, fun v H4 y => ?_⟩
    have okv := yl v H4 y
    have g4 : Sat X.K ⟨wipeE s1.e (own.map (·.2)), R⟩ (wipe σ (own.map (·.2))) ρ' ((IT.d ds[i], some v) :: ((IT.o (OL acc), some (.ref D)) :: (ES s1.e σ ++ (T0 ++ T)))) H4 := by
      refine ⟨g'.le, g'.lr, g'.al, okv.perm (List.Perm.cons _ ?_)⟩
      show (T0 ++ ([(IT.o (OL acc), some (V.ref D))] ++ (ES s1.e σ ++ T) ++ (ES (wipeE s1.e (own.map (·.2))) (wipe σ (own.map (·.2))) ++ RS R ρ'))).Perm ([(IT.o (OL acc), some (V.ref D))] ++ (ES s1.e σ ++ (T0 ++ T)) ++ (ES (wipeE s1.e (own.map (·.2))) (wipe σ (own.map (·.2))) ++ RS R ρ'))
      simp only [List.append_assoc]
      exact (cas _ _ _).trans ((cas T0 (ES s1.e σ) _).append_left _)
    -- the same again with a second copy of the frame, for the way back
    refine ⟨ds[i], _, t', hG, _, ρ', ⟨g4.le, g4.lr, g4.al, g4.ok⟩, fun σ2 o g5 => ⟨wipe_off o, ?_⟩⟩
    have back : ∀ {R2 : List Own} {e2 : List SD} {ρ2 : List V} {acc2 : List PyData} {H2 : Hp}, ρ' <+: ρ2 → Sat X.K ⟨e2, R2⟩ σ2 ρ2 ((IT.o (OL acc2), some (.ref D)) :: (ES s1.e σ ++ (T0 ++ T))) H2 →
        Sat X.K ⟨wipeE s1.e (own.map (·.2)), R2⟩ (wipe σ (own.map (·.2))) ρ2 ((IT.o (OL acc2), some (.ref D)) :: (ES s1.e σ ++ (T0 ++ T))) H2 := fun {R2 e2 ρ2 acc2 H2} p2 g2 => by
      have b := g1.unblk (A := [(IT.o (OL acc2), some (.ref D))]) (p'.trans p2) g2
      have b2 := b.blk (own.map (·.2))
      refine b2.tperm ?_
      exact List.perm_middle
    refine ⟨t', Rt, hT, _, ρ', g5, fun b t2 ρ2 H5 hr p2 g6 => ?_⟩
    cases b with
    | false => exact ⟨acc, t2.R, ρ2, hF t2 hr, by omega, p'.trans p2, back p2 g6⟩
    | true =>
      obtain ⟨yd, t3, hy, iv3⟩ := hE t2 hr
      show ∃ _, _
      refine ⟨t2, yd, t3, hy, _, ρ2, g6, fun u ρ3 H6 p3 _ g7 => ?_⟩
      have g8 : OK X.K ((IT.o (OL acc), some (.ref D)) :: ((IT.d yd, some u) :: (ES s1.e σ ++ (T0 ++ T)) ++ (ES t3.e σ2 ++ RS t3.R ρ3))) H6 := g7.ok.perm (List.Perm.swap _ _ _)
      obtain ⟨F, f⟩ := g8.fz
      obtain ⟨pD, vs, e3, h1, h2, h3⟩ := f.putL (ds' := acc)
      cases e3
      obtain ⟨u', e4, hu⟩ := f.at (x := yd) (v := some u) (List.mem_cons_of_mem _ List.mem_cons_self)
      cases e4
      refine ⟨vs, h1, by rw [dpsLen h2]; omega, acc ++ [yd], t3.R, ρ3, iv3, by rw [List.length_append]; exact Nat.succ_le_succ hacc, (p'.trans p2).trans p3, back (e2 := t3.e) (p2.trans p3) ?_⟩
      have k := h3 (acc ++ [yd]) (vs ++ [u]) (dpsApp h2 (.cons hu .nil))
      exact ⟨g7.le, g7.lr, g7.al, ((k.perm (List.Perm.swap _ _ _)).tail)⟩
  · have e : i = ds.length := by omega
    subst e
    refine .inl ⟨w2, fin acc R ρ' D H' iv (p1.trans p') ?_⟩
    have b := g1.unblk (A := [(IT.o (OL acc), some (.ref D))]) p' g'
    have b2 : Sat X.K ⟨s1.e, R⟩ σ ρ' ((IT.o (OL acc), some (.ref D)) :: (T0 ++ T)) H' := b
    have b3 : Sat X.K ⟨s1.e, R⟩ σ ρ' (T0 ++ ((IT.o (OL acc), some (.ref D)) :: T)) H' := b2.tperm List.perm_middle.symm
    exact b3.tdrops
/-- a comprehension: its list is kept for good -/
theorem ze_lcD {scope : Scope} {own : List (Str × Nat)} {vs : List Nat} {acc0 : List PyData} {R0 : List Own} (hi : ZI X tg iter s ds s1) (Iv : Nat → List PyData → List Own → Prop) (h0 : Iv 0 [] s1.R)
    (turn : ∀ i x acc R, ds[i]? = some x → Iv i acc R → ∃ t' Rt, (∀ z, ZG (bl X scope z) tg vs x ⟨wipeE s1.e vs, R⟩ t') ∧ (∀ z, ZTs (bl X scope z) ifs t' Rt) ∧ (∀ t2, Rt false t2 → Iv (i + 1) acc t2.R) ∧
      ∀ t2, Rt true t2 → ∃ y t3, (∀ z, ZE (bl X scope z) elt t2 (.d y) t3) ∧ Iv (i + 1) (acc ++ [y]) t3.R)
    (done : ∀ acc R, Iv ds.length acc R → acc = acc0 ∧ R = R0) (hsz : ds.length < sizeLine) (hN : X.N.Nodup) (ok : BlkOk X.N X.env.scope scope own) (hvs : own.map (·.2) = vs := by rfl) (hc : X.calm = true := by rfl) (hs : ∀ x, foldedSetIterable iter X.env x = pure x := by intro _; rfl) :
    ZE X (.ListComp elt [⟨tg, iter, ifs, 0⟩] scope pos) s (.d (.list acc0)) ⟨s1.e, R0⟩ := by
  obtain ⟨te, ⟨h, _⟩, run⟩ := lc_run (pos := pos) hvs Iv h0 turn hsz hi hN hc ok hs
  refine PE.imp h fun σ H Q ⟨T, ρ, g, k⟩ => run T σ ρ H Q g fun acc R ρ' D H' iv p g' => ?_
  obtain ⟨e1, e2⟩ := done acc R iv
  subst e1 e2
  obtain ⟨F, f⟩ := g'.ok.fz
  exact k _ ρ' H' p trivial ⟨g'.le, g'.lr, g'.al, f.freeze⟩
/-- .. or of its own -/
theorem ze_lcO {scope : Scope} {own : List (Str × Nat)} {vs : List Nat} {acc0 : List PyData} {R0 : List Own} (hi : ZI X tg iter s ds s1) (Iv : Nat → List PyData → List Own → Prop) (h0 : Iv 0 [] s1.R)
    (turn : ∀ i x acc R, ds[i]? = some x → Iv i acc R → ∃ t' Rt, (∀ z, ZG (bl X scope z) tg vs x ⟨wipeE s1.e vs, R⟩ t') ∧ (∀ z, ZTs (bl X scope z) ifs t' Rt) ∧ (∀ t2, Rt false t2 → Iv (i + 1) acc t2.R) ∧
      ∀ t2, Rt true t2 → ∃ y t3, (∀ z, ZE (bl X scope z) elt t2 (.d y) t3) ∧ Iv (i + 1) (acc ++ [y]) t3.R)
    (done : ∀ acc R, Iv ds.length acc R → acc = acc0 ∧ R = R0) (hsz : ds.length < sizeLine) (hN : X.N.Nodup) (ok : BlkOk X.N X.env.scope scope own) (hvs : own.map (·.2) = vs := by rfl) (hc : X.calm = true := by rfl) (hs : ∀ x, foldedSetIterable iter X.env x = pure x := by intro _; rfl) :
    ZE X (.ListComp elt [⟨tg, iter, ifs, 0⟩] scope pos) s (.r R0.length) ⟨s1.e, R0 ++ [OL acc0]⟩ := by
  obtain ⟨te, ⟨h, _⟩, run⟩ := lc_run (pos := pos) hvs Iv h0 turn hsz hi hN hc ok hs
  refine PE.imp h fun σ H Q ⟨T, ρ, g, k⟩ => run T σ ρ H Q g fun acc R ρ' D H' iv p g' => ?_
  obtain ⟨e1, e2⟩ := done acc R iv
  subst e1 e2
  refine k _ (ρ' ++ [.ref D]) H' (p.trans (List.prefix_append _ _)) (Sat.newVR (s := ⟨s1.e, R⟩) g') (Sat.tun ?_)
  exact Sat.push (s := ⟨s1.e, R⟩) g'.ok g'.le g'.lr g'.al
end

/-! ### functions -/
def ie (ds : List IT) (vs : List V) : List En := List.zipWith (fun i v => (i, some v)) ds vs
def sl : List IT → Nat → List SD
  | [], _ => []
  | .o _ :: r, n => .r n :: sl r (n + 1)
  | .d x :: r, n => .d x :: sl r n
  | .un :: r, n => .un :: sl r n
def objs : List IT → List Own
  | [] => []
  | .o P :: r => P :: objs r
  | _ :: r => objs r
def vals : List IT → List V → List V
  | .o _ :: r, v :: vs => v :: vals r vs
  | _ :: r, _ :: vs => vals r vs
  | _, _ => []
def back : List IT → List Own → List IT
  | [], _ => []
  | .o _ :: r, P :: Os => .o P :: back r Os
  | .o _ :: r, [] => .un :: back r []
  | _ :: r, Os => .un :: back r Os
/-- a def's promise: what is asked of the arguments; result and objects behind it -/
def spZ (K : PySem.W.Frag) (Pre : List IT → Prop) (Rel : List IT → IT → List Own → Prop) : Sp := fun vs H Q _ => ∃ ds T, Pre ds ∧ ds.length = vs.length ∧ OK K (ie ds vs ++ T) H ∧
  ∀ z Os v H', Rel ds z Os → OK K ((z, some v) :: (ie (back ds Os) vs ++ T)) H' → Q v H'
section
variable {K : PySem.W.Frag} {H : Hp}
theorem vals_len : ∀ {ds : List IT} {vs : List V}, ds.length = vs.length → (vals ds vs).length = (objs ds).length
  | [], [], _ => rfl
  | .o P :: r, v :: vs, h => by simp [vals, objs, vals_len (ds := r) (vs := vs) (by simpa using h)]
  | .d x :: r, v :: vs, h => by simp [vals, objs, vals_len (ds := r) (vs := vs) (by simpa using h)]
  | .un :: r, v :: vs, h => by simp [vals, objs, vals_len (ds := r) (vs := vs) (by simpa using h)]
  | [], _ :: _, h => by simp at h
  | _ :: _, [], h => by simp at h
theorem sl_len : ∀ {ds : List IT} {n : Nat}, (sl ds n).length = ds.length
  | [], _ => rfl
  | .o P :: r, n => by simp [sl, sl_len (ds := r)]
  | .d x :: r, n => by simp [sl, sl_len (ds := r)]
  | .un :: r, n => by simp [sl, sl_len (ds := r)]
theorem enter : ∀ {ds : List IT} {vs : List V} {n : Nat} {T : List En}, ds.length = vs.length → OK K (ie ds vs ++ T) H → OK K (T ++ (ES (sl ds n) (vs.map some) ++ RS (objs ds) (vals ds vs))) H
  | [], [], n, T, _, h => by
    show OK K (T ++ []) H
    rw [List.append_nil]
    exact h
  | .o P :: r, v :: vs, n, T, hl, h => by
    have h1 : OK K (ie r vs ++ ((IT.o P, some v) :: T)) H := OK.perm List.perm_middle.symm h
    have h2 := enter (ds := r) (vs := vs) (n := n + 1) (T := (IT.o P, some v) :: T) (by simpa using hl) h1
    have h3 : OK K ((IT.un, some v) :: ((IT.o P, some v) :: (T ++ (ES (sl r (n + 1)) (vs.map some) ++ RS (objs r) (vals r vs))))) H := OK.un h2
    refine h3.perm ?_
    show ([(IT.un, some v)] ++ ([(IT.o P, some v)] ++ (T ++ (ES (sl r (n + 1)) (vs.map some) ++ RS (objs r) (vals r vs))))).Perm (T ++ ([(IT.un, some v)] ++ ES (sl r (n + 1)) (vs.map some) ++ ([(IT.o P, some v)] ++ RS (objs r) (vals r vs))))
    simp only [List.append_assoc]
    refine ((((cas _ _ _).append_left _).trans (cas _ _ _)).trans (List.Perm.append_left _ ?_))
    exact (cas _ _ _).append_left _
  | .d x :: r, v :: vs, n, T, hl, h => by
    have h1 : OK K (ie r vs ++ ((IT.d x, some v) :: T)) H := OK.perm List.perm_middle.symm h
    have h2 := enter (ds := r) (vs := vs) (n := n) (T := (IT.d x, some v) :: T) (by simpa using hl) h1
    exact OK.perm List.perm_middle.symm h2
  | .un :: r, v :: vs, n, T, hl, h => by
    have h1 : OK K (ie r vs ++ ((IT.un, some v) :: T)) H := OK.perm List.perm_middle.symm h
    have h2 := enter (ds := r) (vs := vs) (n := n) (T := (IT.un, some v) :: T) (by simpa using hl) h1
    exact OK.perm List.perm_middle.symm h2
  | [], _ :: _, _, _, h, _ => by simp at h
  | _ :: _, [], _, _, h, _ => by simp at h
theorem leave : ∀ {ds : List IT} {vs : List V} {R : List Own} {T : List En}, ds.length = vs.length → R.length = (objs ds).length → OK K (T ++ RS R (vals ds vs)) H → OK K (ie (back ds R) vs ++ T) H
  | [], [], R, T, _, hr, h => by
    cases R with
    | nil => rw [show T ++ RS [] (vals [] []) = T from List.append_nil T] at h; exact h
    | cons => simp [objs] at hr
  | .o P :: r, v :: vs, P' :: R, T, hl, hr, h => by
    have h1 : OK K (((IT.o P', some v) :: T) ++ RS R (vals r vs)) H := by
      refine OK.perm ?_ h
      exact List.perm_middle
    have h2 := leave (ds := r) (vs := vs) (R := R) (T := (IT.o P', some v) :: T) (by simpa using hl) (by simpa [objs] using hr) h1
    exact OK.perm List.perm_middle h2
  | .o P :: r, v :: vs, [], T, hl, hr, h => by simp [objs] at hr
  | .d x :: r, v :: vs, R, T, hl, hr, h => by
    have h2 := leave (ds := r) (vs := vs) (R := R) (T := T) (by simpa using hl) (by simpa [objs] using hr) h
    cases R <;> exact h2.un
  | .un :: r, v :: vs, R, T, hl, hr, h => by
    have h2 := leave (ds := r) (vs := vs) (R := R) (T := T) (by simpa using hl) (by simpa [objs] using hr) h
    cases R <;> exact h2.un
  | [], _ :: _, _, _, h, _, _ => by simp at h
  | _ :: _, [], _, _, h, _, _ => by simp at h
theorem sl_ref : ∀ {ds : List IT} {vs : List V} {n i j : Nat}, ds.length = vs.length → (sl ds n)[i]? = some (SD.r j) → n ≤ j ∧ ∃ v, vs[i]? = some v ∧ (vals ds vs)[j - n]? = some v
  | [], [], _, i, _, _, e => by simp [sl] at e
  | .o P :: r, v :: vs, n, 0, j, hl, e => by
    simp [sl] at e
    subst e
    exact ⟨Nat.le_refl _, v, rfl, by simp [vals]⟩
  | .o P :: r, v :: vs, n, i + 1, j, hl, e => by
    obtain ⟨h0, w, h1, h2⟩ := sl_ref (ds := r) (vs := vs) (n := n + 1) (i := i) (j := j) (by simpa using hl) (by simpa [sl] using e)
    refine ⟨by omega, w, by simpa using h1, ?_⟩
    rw [show j - n = (j - (n + 1)) + 1 by omega]
    simpa [vals] using h2
  | .d x :: r, v :: vs, n, 0, j, hl, e => by simp [sl] at e
  | .d x :: r, v :: vs, n, i + 1, j, hl, e => by
    obtain ⟨h0, w, h1, h2⟩ := sl_ref (ds := r) (vs := vs) (n := n) (i := i) (j := j) (by simpa using hl) (by simpa [sl] using e)
    exact ⟨h0, w, by simpa using h1, by simpa [vals] using h2⟩
  | .un :: r, v :: vs, n, 0, j, hl, e => by simp [sl] at e
  | .un :: r, v :: vs, n, i + 1, j, hl, e => by
    obtain ⟨h0, w, h1, h2⟩ := sl_ref (ds := r) (vs := vs) (n := n) (i := i) (j := j) (by simpa using hl) (by simpa [sl] using e)
    exact ⟨h0, w, by simpa using h1, by simpa [vals] using h2⟩
  | [], _ :: _, _, _, _, h, _ => by simp at h
  | _ :: _, [], _, _, _, h, _ => by simp at h
theorem es_un : ∀ (e : List SD) (vs : List V) (n : Nat) {T : List En}, e.length = vs.length → OK K (T ++ ES e (vs.map some)) H → OK K (T ++ ES (e ++ List.replicate n .un) (vs.map some ++ List.replicate n none)) H := fun e vs n T hl h => by
  have q : ES (e ++ List.replicate n .un) (vs.map some ++ List.replicate n none) = ES e (vs.map some) ++ List.replicate n (IT.un, none) := by
    unfold ES
    rw [List.zipWith_append (by rw [List.length_map]; exact hl)]
    congr 1
    exact List.zipWith_replicate' ..
  rw [q]
  induction n with
  | zero => rw [List.replicate_zero, List.append_nil]; exact h
  | succ n ih =>
    have k := OK.un (v := none) (ih (by unfold ES; rw [List.zipWith_append (by rw [List.length_map]; exact hl)]; congr 1; exact List.zipWith_replicate' ..))
    refine k.perm ?_
    rw [List.replicate_succ, ← List.append_assoc, ← List.append_assoc]
    exact List.perm_middle.symm
/-- what a return hands back -/
def retOK (b : Nat) (ds : List IT) (Rel : List IT → IT → List Own → Prop) (r : SD) (t : S) : Prop := match r with
  | .d x => Rel ds (.d x) (t.R.take b)
  | .r j => b ≤ j ∧ ((∃ P, t.R[j]? = some P ∧ Rel ds (.o P) (t.R.take b)) ∨ ∃ es, t.R[j]? = some (OL es) ∧ Rel ds (.d (.list es)) (t.R.take b))
  | .un => False
def inSt (ds : List IT) (n : Nat) : S := ⟨sl ds 0 ++ List.replicate n .un, objs ds⟩
def inPo (ds : List IT) (Rel : List IT → IT → List Own → Prop) : Po := { b := (objs ds).length, nx := fun t => Rel ds (.d .none) (t.R.take (objs ds).length), rt := retOK (objs ds).length ds Rel }
theorem take_set {α : Type} {l : List α} {b j : Nat} {x : α} (h : b ≤ j) : (l.set j x).take b = l.take b := by
  apply List.ext_getElem?
  intro i
  by_cases hi : i < b
  · rw [List.getElem?_take_of_lt hi, List.getElem?_take_of_lt hi, List.getElem?_set_ne (by omega)]
  · rw [List.getElem?_eq_none (by rw [List.length_take]; omega), List.getElem?_eq_none (by rw [List.length_take]; omega)]
theorem run_body {Rel : List IT → IT → List Own → Prop} {ds : List IT} {T : List En} {vs : List V} {Q : VK} {N : List Str} {X : Cx} {body : List Stmt} (hK : X.K = K) (hl : ds.length = vs.length) (ok : OK K (ie ds vs ++ T) H) (q : ∀ z Os v H', Rel ds z Os → OK K ((z, some v) :: (ie (back ds Os) vs ++ T)) H' → Q v H')
    (h : ZSs X body (inSt ds (N.length - vs.length)) (inPo ds Rel)) : ∃ t, PSs X body t ∧ t { nx := fun _ H' => Q .non H', rt := Q } (start N vs) H := by
  refine ⟨_, h, inSt ds (N.length - vs.length), T, vals ds vs, rfl, Nat.le_of_eq (vals_len hl).symm, ?_, ?_⟩
  · refine ⟨?_, (vals_len hl).symm, fun i j e => ?_, ?_⟩
    · show (sl ds 0 ++ List.replicate _ _).length = (vs.map some ++ List.replicate _ none).length
      simp [sl_len, hl]
    · have e' : (sl ds 0 ++ List.replicate (N.length - vs.length) SD.un)[i]? = some (SD.r j) := e
      by_cases hi : i < (sl ds 0).length
      · rw [List.getElem?_append_left hi] at e'
        obtain ⟨_, v, h1, h2⟩ := sl_ref hl e'
        refine ⟨v, ?_, by simpa using h2⟩
        show (vs.map some ++ _)[i]? = _
        rw [List.getElem?_append_left (by rw [List.length_map, ← hl, ← sl_len (n := 0)]; exact hi), List.getElem?_map, h1]
        rfl
      · rw [List.getElem?_append_right (by omega)] at e'
        rw [List.getElem?_replicate] at e'
        split at e' <;> cases e'
    · rw [hK]
      have k := enter (n := 0) hl ok
      have k2 : OK K ((RS (objs ds) (vals ds vs) ++ T) ++ ES (sl ds 0) (vs.map some)) H := by
        refine k.perm ?_
        rw [← List.append_assoc]
        refine (List.perm_append_comm).trans ?_
        rw [← List.append_assoc]
      have k3 := es_un (sl ds 0) vs (N.length - vs.length) (T := RS (objs ds) (vals ds vs) ++ T) (by rw [sl_len]; exact hl) k2
      refine k3.perm ?_
      show (RS (objs ds) (vals ds vs) ++ T ++ ES (sl ds 0 ++ List.replicate (N.length - vs.length) SD.un) (vs.map some ++ List.replicate (N.length - vs.length) none)).Perm (T ++ (ES (sl ds 0 ++ List.replicate (N.length - vs.length) SD.un) (vs.map some ++ List.replicate (N.length - vs.length) none) ++ RS (objs ds) (vals ds vs)))
      rw [List.append_assoc]
      refine (List.perm_append_comm).trans ?_
      rw [List.append_assoc]
  · have lv := vals_len (ds := ds) (vs := vs) hl
    have tk : (vals ds vs).take (inPo ds Rel).b = vals ds vs := List.take_of_length_le (by rw [lv]; exact Nat.le_refl _)
    rw [tk, hK]
    -- out of the end's state: the objects of the arguments
    have out : ∀ {s' : S} {σ' : L2.St} {ρ' : List V} {H' : Hp} {A : List En}, vals ds vs <+: ρ' → Sat K s' σ' ρ' (A ++ T) H' → OK K (A ++ (ie (back ds (s'.R.take (objs ds).length)) vs ++ T)) H' := fun {s' σ' ρ' H' A} p g => by
      obtain ⟨m, rfl⟩ := p
      have lr := g.lr
      rw [List.length_append] at lr
      have q1 : RS s'.R (vals ds vs ++ m) = RS (s'.R.take (objs ds).length) (vals ds vs) ++ RS (s'.R.drop (objs ds).length) m := by
        unfold RS
        rw [← List.zipWith_append (by rw [List.length_take, lv]; omega), List.take_append_drop]
      have k := g.ok
      rw [q1] at k
      have k2 : OK K ((ES s'.e σ' ++ RS (s'.R.drop (objs ds).length) m) ++ ((A ++ T) ++ RS (s'.R.take (objs ds).length) (vals ds vs))) H' := by
        refine k.perm ?_
        simp only [List.append_assoc]
        refine ((cas T _ _).append_left A).trans ?_
        refine (cas A _ _).trans ?_
        refine List.Perm.append_left _ ?_
        refine ((List.Perm.append_left T (List.perm_append_comm)).append_left A).trans ?_
        refine ((cas T _ _).append_left A).trans ?_
        exact cas A _ _
      have k3 := leave hl (by rw [List.length_take]; omega) k2.right
      exact k3.perm (cas _ _ _)
    refine ⟨fun s' σ' ρ' H' a p g => ?_, fun r s' σ' ρ' H' v a p vr g => ?_, fun _ _ _ _ z => z.elim, fun _ _ _ _ z => z.elim⟩
    · exact q _ _ .non H' a (OK.flat (show flat .non .none from trivial) (out (A := []) p g))
    · cases r with
      | un => exact a.elim
      | d x => exact q _ _ v H' a (out (A := [(IT.d x, some v)]) p g)
      | r j =>
        obtain ⟨hb, a⟩ := a
        rcases a with ⟨P, hP, a⟩ | ⟨es, hP, a⟩
        · obtain ⟨w, e2, ok2, _⟩ := g.obj hP
          have ev : w = v := Option.some.inj (e2.symm.trans vr)
          subst ev
          -- the object's own place is given up
          have g3 : Sat K ⟨s'.e, s'.R.set j gone⟩ σ' ρ' ([(IT.o P, some w)] ++ T) H' := by
            refine ZE.frz.back2 (P := P) (T2 := [(IT.o P, some w)] ++ T) g hP e2 ?_
            have k := (OK.perm (List.Perm.swap _ _ _) ok2).tail
            obtain ⟨F2, L, e1, gg⟩ := k
            have c := gg.oCons (v := w) (P := gone) (fp := []) rfl List.nodup_nil (fun a ha => by cases ha) (fun a ha => by cases ha)
            exact ⟨F2, (((IT.o gone, some w), []) :: L), by rw [List.map_cons, e1]; rfl, c⟩
          refine q _ _ w H' a ?_
          have k := out p g3
          rw [show (⟨s'.e, s'.R.set j gone⟩ : S).R = s'.R.set j gone from rfl, take_set hb] at k
          exact k
        · obtain ⟨w, e2, ok2, _⟩ := g.obj hP
          have ev : w = v := Option.some.inj (e2.symm.trans vr)
          subst ev
          obtain ⟨F, f⟩ := ok2.fz
          have g3 : Sat K ⟨s'.e, s'.R.set j gone⟩ σ' ρ' ([(IT.d (.list es), some w)] ++ T) H' := by
            refine ZE.frz.back2 (P := OL es) (T2 := [(IT.d (.list es), some w)] ++ T) g hP e2 ?_
            have k := (OK.perm (List.Perm.swap _ _ _) f.freeze).tail
            obtain ⟨F2, L, e1, gg⟩ := k
            have c := gg.oCons (v := w) (P := gone) (fp := []) rfl List.nodup_nil (fun a ha => by cases ha) (fun a ha => by cases ha)
            exact ⟨F2, (((IT.o gone, some w), []) :: L), by rw [List.map_cons, e1]; rfl, c⟩
          refine q _ _ w H' a ?_
          have k := out p g3
          rw [show (⟨s'.e, s'.R.set j gone⟩ : S).R = s'.R.set j gone from rfl, take_set hb] at k
          exact k
end
end Z

namespace Z
open PySem L2 PyProof.Rows

abbrev Pre := List IT → Prop
abbrev Rel := List IT → IT → List Own → Prop
/-- a def that may be called by its name and raises nothing -/
structure Cal (P : Program) (w : World) (K : PySem.W.Frag) (mg : Str → Option Value) (base : Heap) (k : Nat) (x : Str) (pre : Pre) (rel : Rel) : Prop where
  ex : ∃ (f : Addr) (fd : FuncData) (ps : List Str), FnOk P w K mg base CX0 k f fd ps (spZ K pre rel) ∧ mg x = some (.ref f) ∧ PySem.W.keepIn K (.ref f) = true ∧ Binds K fd ps []
/-- the text of a def, by its name: what the top has left -/
structure Dfn (K : PySem.W.Frag) (mg : Str → Option Value) (x : Str) (st : Stmt) (ps : List Str) : Prop where
  ex : ∃ (f : Addr) (fd : FuncData), Fun K x x st f fd ∧ mg x = some (.ref f) ∧ Binds K fd ps []
section
variable {P : Program} {w : World} {K : PySem.W.Frag} {mg : Str → Option Value} {base : Heap} {x : Str} {st : Stmt} {ps N : List Str} {k : Nat} {pre : Pre} {rel : Rel}
theorem Cal.mono {j : Nat} (c : Cal P w K mg base k x pre rel) (h : k ≤ j) : Cal P w K mg base j x pre rel := let ⟨f, fd, ps, F, r⟩ := c.ex; ⟨f, fd, ps, F.mono h, r⟩
theorem Cal.imp {pre' : Pre} {rel' : Rel} (c : Cal P w K mg base k x pre rel) (h1 : ∀ ds, pre' ds → pre ds) (h2 : ∀ ds z Os, pre' ds → rel ds z Os → rel' ds z Os) : Cal P w K mg base k x pre' rel' :=
  let ⟨f, fd, ps, F, r⟩ := c.ex; ⟨f, fd, ps, F.imp fun vs H Q E ⟨ds, T, a, b, c, d⟩ => ⟨ds, T, h1 _ a, b, c, fun z Os v H' q => d z Os v H' (h2 _ _ _ a q)⟩, r⟩
/-- THE RULE for a def that raises nothing -/
theorem zfun (D : Dfn K mg x st ps) (S : FnScope N ps (defScope st)) (hlen : ∀ ds, pre ds → ds.length = ps.length)
    (body : ∀ (f : Addr) (cdv : Value) (A : Around) (outer : List Env) (s : Shared) (H : Hp) (E : XK) (ds : List IT), pre ds → Room k (A.deeper (envOfC x (defScope st) s.heap.objs.size f cdv)) →
      ZSs (cxOf CX0 P w K mg base N x (defScope st) f cdv A outer s H E).nox (defBody st) (inSt ds (N.length - ps.length)) (inPo ds rel)) : Cal P w K mg base (k + 1) x pre rel := by
  obtain ⟨f, fd, F, hm, hb⟩ := D.ex
  refine ⟨f, fd, ps, F.ok S (fun vs H Q E h => ?_) (fun cdv A outer s H vs Q E hr h => ?_), hm, F.kp, hb⟩
  · obtain ⟨ds, T, a, b, _⟩ := h
    rw [← b]
    exact hlen ds a
  · obtain ⟨ds, T, a, b, c, d⟩ := h
    refine run_body (X := (cxOf CX0 P w K mg base N x (defScope st) f cdv A outer s H E).nox) (N := N) rfl b c d ?_
    have e : vs.length = ps.length := by rw [← b]; exact hlen ds a
    rw [e]
    exact body f cdv A outer s H E ds a hr
end
section
variable {X : Cx} {e : Expr} {es : List Expr} {s s1 s2 : S} {rs : List SD} {pos p : Pos} {x : Str} {k j : Nat} {pre : Pre} {rel : Rel} {ds as bs : List PyData} {zd : PyData}
theorem tcall (c : Cal X.prog X.w X.K X.mg X.base k x pre rel) (hr : Room j X.A) (hk : k ≤ j) (h : Cl X x e es pos) (ha : ZA X (e :: es) s rs s1) (hdb : (x == ("__debug__" : Str)) = false := by decide) :
    PE X (.Call (.Name x p) (e :: es) [] pos) (tCall (spZ X.K pre rel) [] E0 (tA X.K s rs s1)) := by
  obtain ⟨f, fd, ps, F, hm, kp, b⟩ := c.ex
  exact pe_call F (hr.mono hk) h.1 hm kp b .nil pass0 ha hdb h.2.1 h.2.2
theorem its_ie : ∀ {ds : List PyData} {vs : List V}, its (ds.map .d) vs = ie (ds.map .d) vs
  | [], _ => rfl
  | _ :: _, [] => rfl
  | d :: ds, v :: vs => by
    show _ :: its (ds.map .d) vs = _ :: ie (ds.map .d) vs
    rw [its_ie]; rfl
/-- a call, of data alone, whose answer is a datum -/
theorem ze_call (c : Cal X.prog X.w X.K X.mg X.base k x pre rel) (ha : ZA X (e :: es) s (ds.map .d) s1) (hp : pre (ds.map .d)) (hq : ∀ z Os, rel (ds.map .d) z Os → z = .d zd) (hr : Room j X.A) (hk : k ≤ j := by omega) (h : Cl X x e es pos := by exact ⟨rfl, rfl, rfl⟩)
    (hdb : (x == ("__debug__" : Str)) = false := by decide) : ZE X (.Call (.Name x p) (e :: es) [] pos) s (.d zd) s1 := by
  refine PE.imp (tcall c hr hk h ha hdb) fun σ H Q ⟨T, ρ, g, q⟩ => ⟨T, ρ, g, fun vs ρ' H' p vr g' => ?_⟩
  show spZ X.K pre rel (vs ++ []) H' Q E0
  rw [List.append_nil]
  have hl : (ds.map IT.d).length = vs.length := by have := vr.1; simpa using this
  refine ⟨ds.map .d, T ++ (ES s1.e σ ++ RS s1.R ρ'), hp, hl, ?_, fun z Os v H2 hz ok => ?_⟩
  · have k := g'.ok
    rw [its_ie, List.append_assoc] at k
    exact k
  · rw [hq z Os hz] at ok
    refine q v ρ' H2 p trivial (g'.of ?_)
    exact ((OK.perm (List.perm_append_comm) (show OK X.K (([(IT.d zd, some v)] ++ ie (back (ds.map IT.d) Os) vs) ++ (T ++ (ES s1.e σ ++ RS s1.R ρ'))) H2 from by rw [List.append_assoc]; exact ok)).perm (by
      refine (List.perm_append_comm).trans ?_
      rw [List.append_assoc]
      exact cas _ _ _)).right
/-- .. an object of the store among the arguments, at j; the answer a datum -/
theorem ze_call1 {o : Nat} {O O' : Own} (c : Cal X.prog X.w X.K X.mg X.base k x pre rel) (ha : ZA X (e :: es) s (as.map .d ++ .r o :: bs.map .d) s1) (ho : s1.R[o]? = some O) (hp : pre (as.map .d ++ .o O :: bs.map .d))
    (hq : ∀ z Os, rel (as.map .d ++ .o O :: bs.map .d) z Os → z = .d zd ∧ ∃ r, Os = O' :: r) (hr : Room j X.A) (hk : k ≤ j := by omega) (h : Cl X x e es pos := by exact ⟨rfl, rfl, rfl⟩)
    (hdb : (x == ("__debug__" : Str)) = false := by decide) : ZE X (.Call (.Name x p) (e :: es) [] pos) s (.d zd) ⟨s1.e, s1.R.set o O'⟩ := by
  refine PE.imp (tcall c hr hk h ha hdb) fun σ H Q ⟨T, ρ, g, q⟩ => ⟨T, ρ, g, fun vs ρ' H' p vr g' => ?_⟩
  show spZ X.K pre rel (vs ++ []) H' Q E0
  rw [List.append_nil]
  have hl0 : as.length + (bs.length + 1) = vs.length := by have := vr.1; simpa using this
  obtain ⟨va, v0, vb, e1, e2, e3⟩ : ∃ va v0 vb, vs = va ++ v0 :: vb ∧ va.length = as.length ∧ vb.length = bs.length := by
    refine ⟨vs.take as.length, vs[as.length]'(by omega), vs.drop (as.length + 1), ?_, by rw [List.length_take]; omega, by rw [List.length_drop]; omega⟩
    rw [List.getElem_cons_drop, List.take_append_drop]
  subst e1
  have hv : ρ'[o]? = some v0 := vr.2 as.length (.r o) v0 (by rw [List.getElem?_append_right (by simp)]; simp) (by rw [List.getElem?_append_right (by omega)]; simp [e2])
  have q1 : its (as.map .d ++ .r o :: bs.map .d) (va ++ v0 :: vb) = its (as.map .d) va ++ (IT.un, some v0) :: its (bs.map .d) vb := by
    unfold its
    rw [List.zipWith_append (by simp [e2])]
    rfl
  have q2 : ie (as.map .d ++ .o O :: bs.map .d) (va ++ v0 :: vb) = its (as.map .d) va ++ (IT.o O, some v0) :: its (bs.map .d) vb := by
    rw [its_ie, its_ie]
    unfold ie
    rw [List.zipWith_append (by simp [e2])]
    rfl
  rw [q1] at g'
  obtain ⟨w, h2, ok, bk⟩ := g'.obj ho
  have ew : w = v0 := Option.some.inj (h2.symm.trans hv)
  subst ew
  have hl : (as.map IT.d ++ IT.o O :: bs.map IT.d).length = (va ++ w :: vb).length := by simp [e2, e3]
  refine ⟨as.map .d ++ .o O :: bs.map .d, T ++ (ES s1.e σ ++ (RS s1.R ρ').set o (IT.un, some w)), hp, hl, ?_, fun z Os v H2 hz ok2 => ?_⟩
  · rw [q2]
    have k : OK X.K ((IT.un, some w) :: ((IT.o O, some w) :: ((its (as.map .d) va ++ its (bs.map .d) vb) ++ (T ++ (ES s1.e σ ++ (RS s1.R ρ').set o (IT.un, some w)))))) H' := by
      refine ok.perm ?_
      refine (List.Perm.swap _ _ _).symm.trans ?_ |>.symm
      refine List.Perm.cons _ ?_
      show ([(IT.un, some w)] ++ ((its (as.map .d) va ++ its (bs.map .d) vb) ++ (T ++ (ES s1.e σ ++ (RS s1.R ρ').set o (IT.un, some w))))).Perm (its (as.map .d) va ++ ([(IT.un, some w)] ++ its (bs.map .d) vb) ++ T ++ (ES s1.e σ ++ (RS s1.R ρ').set o (IT.un, some w)))
      simp only [List.append_assoc]
      exact cas _ _ _
    refine k.tail.perm ?_
    show ([(IT.o O, some w)] ++ ((its (as.map .d) va ++ its (bs.map .d) vb) ++ (T ++ (ES s1.e σ ++ (RS s1.R ρ').set o (IT.un, some w))))).Perm (its (as.map .d) va ++ ([(IT.o O, some w)] ++ its (bs.map .d) vb) ++ (T ++ (ES s1.e σ ++ (RS s1.R ρ').set o (IT.un, some w))))
    simp only [List.append_assoc]
    exact cas _ _ _
  · obtain ⟨z1, r, z2⟩ := hq z Os hz
    subst z1 z2
    have q3 : ∀ (as : List PyData) (va : List V) (Os : List Own), va.length = as.length → ie (back (as.map IT.d ++ IT.o O :: bs.map IT.d) (O' :: Os)) (va ++ w :: vb) = va.map (fun v => (IT.un, some v)) ++ (IT.o O', some w) :: ie (back (bs.map IT.d) Os) vb := by
      intro as
      induction as with
      | nil => intro va Os h; cases va with
        | nil => rfl
        | cons => simp at h
      | cons a as ih => intro va Os h; cases va with
        | nil => simp at h
        | cons v va =>
          show (IT.un, some v) :: ie (back (as.map IT.d ++ IT.o O :: bs.map IT.d) (O' :: Os)) (va ++ w :: vb) = _
          rw [ih va Os (by simpa using h)]
          rfl
    rw [q3 as va r e2] at ok2
    refine q v ρ' H2 p trivial ?_
    have fin : OK X.K ((IT.o O', some w) :: (((IT.d zd, some v) :: (its (as.map .d) va ++ (IT.un, some w) :: its (bs.map .d) vb ++ T)) ++ (ES s1.e σ ++ (RS s1.R ρ').set o (IT.un, some w)))) H2 → Sat X.K ⟨s1.e, s1.R.set o O'⟩ σ ρ' ((IT.d zd, some v) :: (its (as.map .d) va ++ (IT.un, some w) :: its (bs.map .d) vb ++ T)) H2 := fun h =>
      ZE.frz.back2 (T2 := (IT.d zd, some v) :: (its (as.map .d) va ++ (IT.un, some w) :: its (bs.map .d) vb ++ T)) g' ho hv h
    have fin2 : OK X.K ((IT.o O', some w) :: (((IT.d zd, some v) :: T) ++ (ES s1.e σ ++ (RS s1.R ρ').set o (IT.un, some w)))) H2 → Sat X.K ⟨s1.e, s1.R.set o O'⟩ σ ρ' ((IT.d zd, some v) :: T) H2 := fun h =>
      ZE.frz.back2 (T2 := (IT.d zd, some v) :: T) g' ho hv h
    refine fin2 ?_
    have k : OK X.K ((va.map (fun v => (IT.un, some v)) ++ ie (back (bs.map IT.d) r) vb) ++ ((IT.o O', some w) :: (((IT.d zd, some v) :: T) ++ (ES s1.e σ ++ (RS s1.R ρ').set o (IT.un, some w))))) H2 := by
      refine ok2.perm ?_
      show ([(IT.d zd, some v)] ++ (va.map (fun v => (IT.un, some v)) ++ ([(IT.o O', some w)] ++ ie (back (bs.map IT.d) r) vb) ++ (T ++ (ES s1.e σ ++ (RS s1.R ρ').set o (IT.un, some w))))).Perm ((va.map (fun v => (IT.un, some v)) ++ ie (back (bs.map IT.d) r) vb) ++ ([(IT.o O', some w)] ++ ([(IT.d zd, some v)] ++ T ++ (ES s1.e σ ++ (RS s1.R ρ').set o (IT.un, some w)))))
      simp only [List.append_assoc]
      refine (cas _ _ _).trans ?_
      refine List.Perm.append_left _ ?_
      refine (((cas _ (ie (back (bs.map IT.d) r) vb) _).append_left _).trans (cas _ _ _)).trans ?_
      refine List.Perm.append_left _ ?_
      exact cas _ _ _
    exact k.right
end
end Z

namespace Z
open PySem L2 PyProof.Rows

/-! ### promises by a type of arguments -/
section
variable {A : Type} (args : A → List IT) (ask : A → Prop) (res : A → IT) (outs : A → List Own)
def preOf : Pre := fun ds => ∃ x, ask x ∧ ds = args x
def relOf : Rel := fun ds z Os => ∀ x, ask x → ds = args x → z = res x ∧ Os = outs x
end
/-- what a return is to be -/
def retS (b : Nat) (z0 : IT) (O0 : List Own) (r : SD) (t : S) : Prop := match r with
  | .d x => z0 = .d x ∧ t.R.take b = O0
  | .r j => b ≤ j ∧ ((∃ P, t.R[j]? = some P ∧ z0 = .o P) ∨ ∃ es, t.R[j]? = some (OL es) ∧ z0 = .d (.list es)) ∧ t.R.take b = O0
  | .un => False
def poS (b : Nat) (z0 : IT) (O0 : List Own) : Po := { b := b, nx := fun t => z0 = .d .none ∧ t.R.take b = O0, rt := retS b z0 O0 }
theorem PSs.wk {X : Cx} {sts : List Stmt} {s : S} {P Q : Po} (h : ZSs X sts s P) (hb : Q.b = P.b) (h1 : ∀ t, P.nx t → Q.nx t) (h2 : ∀ r t, P.rt r t → Q.rt r t) (h3 : ∀ t, P.bk t → Q.bk t) (h4 : ∀ t, P.ct t → Q.ct t) : ZSs X sts s Q :=
  PSs.imp h fun D σ H ⟨t, T, ρ, e1, b, g, q⟩ => ⟨t, T, ρ, e1, by rw [← hb]; exact b, g, by
    rw [hb] at q
    exact ⟨fun s' σ' ρ' H' a => q.nx s' σ' ρ' H' (h1 _ a), fun r s' σ' ρ' H' v a => q.rt r s' σ' ρ' H' v (h2 _ _ a), fun s' σ' ρ' H' a => q.bk s' σ' ρ' H' (h3 _ a), fun s' σ' ρ' H' a => q.ct s' σ' ρ' H' (h4 _ a)⟩⟩
section
variable {P : Program} {w : World} {K : PySem.W.Frag} {mg : Str → Option Value} {base : Heap} {x : Str} {st : Stmt} {ps N : List Str} {k : Nat}
variable {A : Type} {args : A → List IT} {ask : A → Prop} {res : A → IT} {outs : A → List Own}
theorem zfunS (D : Dfn K mg x st ps) (S : FnScope N ps (defScope st)) (hlen : ∀ x, (args x).length = ps.length) (inj : ∀ x y, ask x → ask y → args x = args y → res x = res y ∧ outs x = outs y)
    (body : ∀ (f : Addr) (cdv : Value) (Ar : Around) (outer : List Env) (s : Shared) (H : Hp) (E : XK) (y : A), ask y → Room k (Ar.deeper (envOfC x (defScope st) s.heap.objs.size f cdv)) →
      ZSs (cxOf CX0 P w K mg base N x (defScope st) f cdv Ar outer s H E).nox (defBody st) (inSt (args y) (N.length - ps.length)) (poS (objs (args y)).length (res y) (outs y))) : Cal P w K mg base (k + 1) x (preOf args ask) (relOf args ask res outs) := by
  refine zfun D S (fun ds ⟨y, _, e⟩ => by rw [e]; exact hlen y) fun f cdv Ar outer s H E ds hp hr => ?_
  obtain ⟨y, hy, e⟩ := hp
  subst e
  refine PSs.wk (body f cdv Ar outer s H E y hy hr) rfl (fun t ⟨h1, h2⟩ => ?_) (fun r t h => ?_) (fun _ z => z) (fun _ z => z)
  · intro z hz e
    obtain ⟨i1, i2⟩ := inj y z hy hz e
    exact ⟨by rw [← i1, h1], by rw [← i2]; exact h2⟩
  · cases r with
    | un => exact h
    | d v =>
      obtain ⟨h1, h2⟩ := h
      intro z hz e
      obtain ⟨i1, i2⟩ := inj y z hy hz e
      exact ⟨by rw [← i1, h1], by rw [← i2]; exact h2⟩
    | r j =>
      obtain ⟨hb, h, h2⟩ := h
      refine ⟨hb, ?_⟩
      rcases h with ⟨O, hO, h1⟩ | ⟨es, hO, h1⟩
      · refine .inl ⟨O, hO, fun z hz e => ?_⟩
        obtain ⟨i1, i2⟩ := inj y z hy hz e
        exact ⟨by rw [← i1, h1], by rw [← i2]; exact h2⟩
      · refine .inr ⟨es, hO, fun z hz e => ?_⟩
        obtain ⟨i1, i2⟩ := inj y z hy hz e
        exact ⟨by rw [← i1, h1], by rw [← i2]; exact h2⟩
end
def dsOf : List IT → List PyData
  | .d x :: r => x :: dsOf r
  | _ => []
def aftO : List IT → List IT
  | .o _ :: r => r
  | _ :: r => aftO r
  | [] => []
section
variable {X : Cx} {e : Expr} {es : List Expr} {s s1 s2 : S} {rs : List SD} {pos p : Pos} {x : Str} {k j : Nat} {zd : PyData} {O O' : Own}
variable {A : Type} {args : A → List IT} {ask : A → Prop} {res : A → IT} {outs : A → List Own}
theorem ze_callS (y : A) (c : Cal X.prog X.w X.K X.mg X.base k x (preOf args ask) (relOf args ask res outs)) (ha : ZA X (e :: es) s rs s1) (hy : ask y) (hz : res y = .d zd) (hr : Room j X.A) (hk : k ≤ j := by omega)
    (h1 : args y = (dsOf (args y)).map .d := by rfl) (h2 : rs = (dsOf (args y)).map .d := by rfl) (h : Cl X x e es pos := by exact ⟨rfl, rfl, rfl⟩) (hdb : (x == ("__debug__" : Str)) = false := by decide) : ZE X (.Call (.Name x p) (e :: es) [] pos) s (.d zd) s1 := by
  subst h2
  exact ze_call (ds := dsOf (args y)) c ha ⟨y, hy, h1.symm⟩ (fun z Os hq => by rw [(hq y hy h1.symm).1, hz]) hr hk h hdb
theorem ze_callS1 (y : A) {o : Nat} (c : Cal X.prog X.w X.K X.mg X.base k x (preOf args ask) (relOf args ask res outs)) (ha : ZA X (e :: es) s rs s1) (hy : ask y) (ho : s1.R[o]? = some O) (hz : res y = .d zd) (hO : outs y = [O']) (hr : Room j X.A) (hk : k ≤ j := by omega)
    (h1 : args y = (dsOf (args y)).map .d ++ .o O :: (dsOf (aftO (args y))).map .d := by rfl) (h2 : rs = (dsOf (args y)).map .d ++ .r o :: (dsOf (aftO (args y))).map .d := by rfl) (h : Cl X x e es pos := by exact ⟨rfl, rfl, rfl⟩) (hdb : (x == ("__debug__" : Str)) = false := by decide) :
    ZE X (.Call (.Name x p) (e :: es) [] pos) s (.d zd) ⟨s1.e, s1.R.set o O'⟩ := by
  subst h2
  exact ze_call1 (as := dsOf (args y)) (bs := dsOf (aftO (args y))) c ha ho ⟨y, hy, h1.symm⟩ (fun z Os hq => by
    obtain ⟨q1, q2⟩ := hq y hy h1.symm
    exact ⟨by rw [q1, hz], [], by rw [q2, hO]⟩) hr hk h hdb
end
end Z

namespace Z
open PySem L2 PyProof.Rows

/-! ### keys of dicts: tuples of ints, texts and such tuples -/
noncomputable instance decPD : DecidableEq PyData := fun a b => Classical.propDecidable (a = b)
mutual
def isAt (h : Heap) : PyData → Value → Prop
  | .int i, v => ∃ t, v = .int i t
  | .str x, v => ∃ t, v = .str x t
  | .tuple ds, v => ∃ a, v = .ref a ∧ ∃ o its n, h.get? a = some o ∧ o.cls = .type "tuple" ∧ o.data = .seq its n ∧ isAts h ds its.toList
  | _, _ => False
def isAts (h : Heap) : List PyData → List Value → Prop
  | [], [] => True
  | d :: ds, v :: vs => isAt h d v ∧ isAts h ds vs
  | _, _ => False
end
mutual
def dep : PyData → Nat
  | .tuple ds => deps ds + 1
  | _ => 0
def deps : List PyData → Nat
  | [] => 0
  | d :: ds => max (dep d) (deps ds)
end
mutual
def hashD (w : World) : PyData → Int
  | .int i => hashInt i
  | .str x => hashStr w x
  | .tuple ds => reduceHash (Builtin.Tuple.tupleHashOf (hashDs w ds))
  | _ => 0
def hashDs (w : World) : List PyData → List Int
  | [] => []
  | d :: ds => hashD w d :: hashDs w ds
end
mutual
def drw : PyData → Nat
  | .tuple ds => drws ds + 1
  | _ => 1
def drws : List PyData → Nat
  | [] => 0
  | d :: ds => drw d + drws ds
end
mutual
theorem isAt_inj {h : Heap} : ∀ {x y : PyData} {v : Value}, isAt h x v → isAt h y v → x = y
  | .int i, y, v, hx, hy => by
    obtain ⟨t, rfl⟩ := hx
    cases y with
    | int j => obtain ⟨t', e⟩ := hy; injection e with e1 _; rw [e1]
    | str => obtain ⟨t', e⟩ := hy; cases e
    | tuple => obtain ⟨a, e, _⟩ := hy; cases e
    | _ => exact hy.elim
  | .str i, y, v, hx, hy => by
    obtain ⟨t, rfl⟩ := hx
    cases y with
    | str j => obtain ⟨t', e⟩ := hy; injection e with e1 _; rw [e1]
    | int => obtain ⟨t', e⟩ := hy; cases e
    | tuple => obtain ⟨a, e, _⟩ := hy; cases e
    | _ => exact hy.elim
  | .tuple ds, y, v, hx, hy => by
    obtain ⟨a, rfl, o, its, n, h1, h2, h3, h4⟩ := hx
    cases y with
    | int j => obtain ⟨t', e⟩ := hy; cases e
    | str => obtain ⟨t', e⟩ := hy; cases e
    | tuple es =>
      obtain ⟨a', e, o', its', n', g1, g2, g3, g4⟩ := hy
      cases e
      rw [h1] at g1
      cases g1
      rw [h3] at g3
      cases g3
      rw [isAts_inj h4 g4]
    | _ => exact hy.elim
  | .none, _, _, hx, _ => hx.elim
  | .bool _, _, _, hx, _ => hx.elim
  | .list _, _, _, hx, _ => hx.elim
  | .dict _, _, _, hx, _ => hx.elim
theorem isAts_inj {h : Heap} : ∀ {x y : List PyData} {v : List Value}, isAts h x v → isAts h y v → x = y
  | [], [], [], _, _ => rfl
  | [], _ :: _, [], _, hy => hy.elim
  | _ :: _, _, [], hx, _ => hx.elim
  | [], _, _ :: _, hx, _ => hx.elim
  | _ :: _, [], _ :: _, _, hy => hy.elim
  | d :: ds, e :: es, v :: vs, hx, hy => by rw [isAt_inj hx.1 hy.1, isAts_inj hx.2 hy.2]
end
mutual
theorem isAt_keep {h h' : Heap} (k : ∀ a o its n, h.get? a = some o → o.data = .seq its n → h'.get? a = some o) : ∀ {x : PyData} {v : Value}, isAt h x v → isAt h' x v
  | .int i, v, hx => hx
  | .str i, v, hx => hx
  | .tuple ds, v, hx => by
    obtain ⟨a, e, o, its, n, h1, h2, h3, h4⟩ := hx
    exact ⟨a, e, o, its, n, k a o its n h1 h3, h2, h3, isAts_keep k h4⟩
  | .none, _, hx => hx.elim
  | .bool _, _, hx => hx.elim
  | .list _, _, hx => hx.elim
  | .dict _, _, hx => hx.elim
theorem isAts_keep {h h' : Heap} (k : ∀ a o its n, h.get? a = some o → o.data = .seq its n → h'.get? a = some o) : ∀ {x : List PyData} {v : List Value}, isAts h x v → isAts h' x v
  | [], [], _ => trivial
  | [], _ :: _, hx => hx.elim
  | _ :: _, [], hx => hx.elim
  | d :: ds, v :: vs, hx => ⟨isAt_keep k hx.1, isAts_keep k hx.2⟩
end
theorem isAts_len {h : Heap} : ∀ {x : List PyData} {v : List Value}, isAts h x v → x.length = v.length
  | [], [], _ => rfl
  | [], _ :: _, hx => hx.elim
  | _ :: _, [], hx => hx.elim
  | d :: ds, v :: vs, hx => by simp [isAts_len hx.2]
section
variable {prog : Program} {w : World}
theorem hash_tup (A : Around) (E : Value → Shared → Prop) (ds : List PyData) (ih : ∀ d ∈ ds, ∀ (s : Shared) (v : Value) (Q : Int → Shared → Prop), isAt s.heap d v → Q (hashD w d) { s with toks := s.toks + drw d } → wpAny (model prog w) A.in1 (pyHash v) Q E s)
    (s : Shared) (v : Value) (Q : Int → Shared → Prop) (hu : A.units < cLine) (hx : isAt s.heap (.tuple ds) v) (h : Q (hashD w (.tuple ds)) { s with toks := s.toks + drw (.tuple ds) }) : wpAny (model prog w) A (pyHash v) Q E s := by
  obtain ⟨a, rfl, o, its, n, ho, hc, hd, hi⟩ := hx
  have hT : s.TypeIs (.ref a) "tuple" := ⟨o, ho, hc⟩
  unfold pyHash pyHashByItsType
  refine wpAny_bind (wpAny_cRoomFor_or (.inr hu) ?_)
  refine wpAny_bind (wpAny_specialOf hT F.slot_tuple_hash.lookup ?_)
  have nn : (some (Value.builtin "tuple.__hash__") == some Value.none) = false := beq_builtin_none ..
  dsimp only
  rw [if_neg (by rw [nn]; exact Bool.false_ne_true)]
  refine wpAny_bind (wpAny_specialOf hT F.slot_tuple_hash.lookup ?_)
  refine wpAny_bind (wpAny_callSpecialIfBoundUnlessNone?_slot hT F.slot_tuple_hash (wpAny_call_entry F.slot_tuple_hash hT F.entry_tuple_hash ?_ (F.args_tuple_hash_1 _)))
  show wpAny _ _ (Builtin.Tuple.tupleItemsOf (.ref a) >>= _) _ _ s
  refine wpAny_bind (wpAny_tupleItemsOf ho hd ?_)
  refine wpAny_bind ?_
  rw [← Array.forIn_toList]
  refine wpAny_forIn_list _ (fun rest (b : Array Int) s' => ∃ xs ys, ds = xs ++ ys ∧ isAts s.heap ys rest ∧ b.toList = hashDs w xs ∧ s' = { s with toks := s.toks + drws xs }) _ ?_ ?_ _ _ ⟨[], ds, rfl, hi, rfl, rfl⟩
  · rintro x rest b s' ⟨xs, ys, e1, e2, e3, rfl⟩
    cases ys with
    | nil => exact e2.elim
    | cons y ys =>
      refine wpAny_bind (ih y (by rw [e1]; simp) _ x _ e2.1 ?_)
      refine wpAny_pure ⟨xs ++ [y], ys, by rw [e1]; simp, e2.2, ?_, ?_⟩
      · rw [Array.toList_push, e3]
        clear e1 e3
        induction xs with
        | nil => rfl
        | cons z zs ihz =>
          show hashD w z :: (hashDs w zs ++ [hashD w y]) = hashD w z :: hashDs w (zs ++ [y])
          rw [ihz]
      · have dl : ∀ l : List PyData, drws (l ++ [y]) = drws l + drw y := fun l => by
          induction l with
          | nil => show drw y + 0 = 0 + drw y; omega
          | cons z zs ihz => show drw z + drws (zs ++ [y]) = drw z + drws zs + drw y; rw [ihz]; omega
        rw [dl, Nat.add_assoc]
  · rintro b s' ⟨xs, ys, e1, e2, e3, rfl⟩
    cases ys with
    | cons y ys => exact e2.elim
    | nil =>
      rw [List.append_nil] at e1
      subst e1
      show wpAny _ _ (retInt (Builtin.Tuple.tupleHashOf b.toList)) _ _ _
      rw [e3]
      refine wpAny_ret_mkInt ?_
      have hh : Q (reduceHash (Builtin.Tuple.tupleHashOf (hashDs w ds))) { s with toks := s.toks + (drws ds + 1) } := h
      unfold reduceHash at hh
      show wpAny _ _ (pyHashByItsType.reduced (Builtin.Tuple.tupleHashOf (hashDs w ds))) Q E _
      unfold pyHashByItsType.reduced
      by_cases hr : (decide (-(2 : Int) ^ 63 ≤ Builtin.Tuple.tupleHashOf (hashDs w ds)) && decide (Builtin.Tuple.tupleHashOf (hashDs w ds) < 2 ^ 63)) = true
      · rw [if_pos hr] at hh ⊢
        exact wpAny_pure (by rw [Nat.add_assoc]; exact hh)
      · rw [if_neg hr] at hh ⊢
        exact wpAny_bind (wpAny_rule (wpAny_pure (by rw [Nat.add_assoc]; exact hh)))
theorem dep_mem : ∀ {ds : List PyData} {d : PyData}, d ∈ ds → dep d ≤ deps ds
  | [], d, h => by simp at h
  | e :: es, d, h => by
    have h1 : deps (e :: es) = max (dep e) (deps es) := rfl
    rcases List.mem_cons.mp h with z | z
    · subst z; omega
    · have := dep_mem z; omega
def HP (prog : Program) (w : World) (E : Value → Shared → Prop) (d : PyData) : Prop := ∀ (A : Around) (s : Shared) (v : Value) (Q : Int → Shared → Prop), A.units + dep d < cLine → isAt s.heap d v → Q (hashD w d) { s with toks := s.toks + drw d } → wpAny (model prog w) A (pyHash v) Q E s
mutual
theorem hash_at (E : Value → Shared → Prop) : ∀ (d : PyData), HP prog w E d
  | .int i => fun A s v Q hu hx h => by
    obtain ⟨t, rfl⟩ := hx
    exact wpAny_pyHash_int h
  | .str i => fun A s v Q hu hx h => by
    obtain ⟨t, rfl⟩ := hx
    exact wpAny_pyHash_str h
  | .tuple ds => fun A s v Q hu hx h => by
    have e : dep (.tuple ds) = deps ds + 1 := rfl
    have l := hash_all E ds
    exact hash_tup A E ds (fun d hd s v Q hx h => l d hd A.in1 s v Q (by have := dep_mem hd; show A.units + 1 + dep d < cLine; omega) hx h) s v Q (by omega) hx h
  | .none => fun _ _ _ _ _ hx _ => hx.elim
  | .bool _ => fun _ _ _ _ _ hx _ => hx.elim
  | .list _ => fun _ _ _ _ _ hx _ => hx.elim
  | .dict _ => fun _ _ _ _ _ hx _ => hx.elim
theorem hash_all (E : Value → Shared → Prop) : ∀ (ds : List PyData), ∀ d ∈ ds, HP prog w E d
  | [] => fun d hd => by simp at hd
  | e :: es => fun d hd => by
    have h1 := hash_at E e
    have h2 := hash_all E es
    rcases List.mem_cons.mp hd with z | z
    · rw [z]; exact h1
    · exact h2 d z
end
/-! equality -/
theorem eq_tup (A : Around) (E : Value → Shared → Prop) (ds es : List PyData) (ih : ∀ d ∈ ds, ∀ (e : PyData) (s : Shared) (u v : Value) (Q : Bool → Shared → Prop) (E : Value → Shared → Prop), isAt s.heap d u → isAt s.heap e v → Q (decide (d = e)) s → wpAny (model prog w) A.in1 (eqBool u v) Q E s)
    (s : Shared) (u v : Value) (Q : Bool → Shared → Prop) (hu : A.units < cLine) (hx : isAt s.heap (.tuple ds) u) (hy : isAt s.heap (.tuple es) v) (h : Q (decide (PyData.tuple ds = PyData.tuple es)) s) : wpAny (model prog w) A (eqBool u v) Q E s := by
  have hx0 := hx
  have hy0 := hy
  obtain ⟨a, rfl, oa, xs, na, hoa, hca, hda, hia⟩ := hx
  obtain ⟨b, rfl, ob, ys, nb, hob, hcb, hdb, hib⟩ := hy
  have hTa : s.TypeIs (.ref a) "tuple" := ⟨oa, hoa, hca⟩
  have hTb : s.TypeIs (.ref b) "tuple" := ⟨ob, hob, hcb⟩
  unfold eqBool
  refine wpAny_holding ?_
  by_cases hab : (Value.ref a == Value.ref b) = true
  · rw [if_pos hab]
    have e : a = b := by have := eq_of_beq hab; injection this
    subst e
    have e2 := isAt_inj hx0 hy0
    rw [decide_eq_true e2] at h
    exact wpAny_bind (wpAny_rule (wpAny_pure h))
  · rw [if_neg hab]
    refine wpAny_bind (wpAny_richCompare_same_room (op := .Eq) hTa hTb F.slot_tuple_eq (wpAny_call_entry F.slot_tuple_eq hTa F.entry_tuple_eq ?_ (F.args_tuple_eq_2 _ _)) hu)
    show wpAny _ _ (isInstance (.ref b) (.type "tuple") >>= _) _ _ s
    refine wpAny_bind (wpAny_isInstance hTb isSubtype_tuple_tuple ?_)
    simp only [Bool.not_true, Bool.false_eq_true, if_false]
    refine wpAny_bind (wpAny_tupleItemsOf hoa hda ?_)
    refine wpAny_bind (wpAny_tupleItemsOf hob hdb ?_)
    refine wpAny_bind ?_
    refine wpAny_forIn_list _ (fun rest r s' => r.1 = none ∧ s' = s ∧ ∃ ds1 ds2 es2 xs2 ys2, ds = ds1 ++ ds2 ∧ rest = List.zip xs2 ys2 ∧ isAts s.heap ds2 xs2 ∧ isAts s.heap es2 ys2 ∧ (ds = es ↔ ds2 = es2) ∧ (xs2.length == ys2.length) = (xs.size == ys.size)) _ ?_ ?_ _ _
      ⟨rfl, rfl, [], ds, es, xs.toList, ys.toList, rfl, rfl, hia, hib, Iff.rfl, by simp⟩
    · rintro ⟨p, q⟩ rest r s' ⟨hr, rfl, ds1, ds2, es2, xs2, ys2, e0, hz, hx', hy', hiff, hlen⟩
      match ds2, xs2, es2, ys2, hx', hy', hz with
      | d :: ds2, x :: xs2, e :: es2, y :: ys2, hx', hy', hz =>
        simp only [List.zip_cons_cons, List.cons.injEq, Prod.mk.injEq] at hz
        obtain ⟨⟨rfl, rfl⟩, rfl⟩ := hz
        refine wpAny_bind (ih d (by rw [e0]; simp) e _ p q _ _ hx'.1 hy'.1 ?_)
        by_cases hde : d = e
        · subst hde
          rw [decide_eq_true rfl]
          simp only [Bool.not_true, Bool.false_eq_true, if_false]
          exact wpAny_pure ⟨rfl, rfl, ds1 ++ [d], ds2, es2, xs2, ys2, by rw [e0]; simp, rfl, hx'.2, hy'.2, by rw [hiff]; simp, by simpa using hlen⟩
        · rw [decide_eq_false hde]
          simp only [Bool.not_false, if_true]
          have nf : ¬ PyData.tuple ds = PyData.tuple es := fun z => hde (by
            injection z with z
            have := hiff.mp z
            injection this)
          rw [decide_eq_false nf] at h
          exact wpAny_bind (wpAny_pure (wpAny_pure (wpAny_pure ⟨_, rfl, (fun z => nomatch z), wpAny_truthy_bool h⟩)))
      | [], [], _, _, _, _, hz => simp at hz
      | _ :: _, _ :: _, [], [], _, _, hz => simp at hz
      | [], _ :: _, _, _, hx', _, _ => exact hx'.elim
      | _ :: _, [], _, _, hx', _, _ => exact hx'.elim
      | _ :: _, _ :: _, [], _ :: _, _, hy', _ => exact hy'.elim
      | _ :: _, _ :: _, _ :: _, [], _, hy', _ => exact hy'.elim
    · rintro ⟨r1, r2⟩ s' ⟨hr, rfl, ds1, ds2, es2, xs2, ys2, e0, hz, hx', hy', hiff, hlen⟩
      simp only at hr
      subst hr
      refine wpAny_pure ?_
      have fin : (xs.size == ys.size) = decide (PyData.tuple ds = PyData.tuple es) := by
        rw [← hlen]
        have l1 := isAts_len hx'
        have l2 := isAts_len hy'
        have z : xs2 = [] ∨ ys2 = [] := by
          cases xs2 with
          | nil => exact .inl rfl
          | cons x xs2 => cases ys2 with
            | nil => exact .inr rfl
            | cons y ys2 => simp at hz
        by_cases q : ds2 = es2
        · have e1 : PyData.tuple ds = PyData.tuple es := by rw [hiff.mpr q]
          rw [decide_eq_true e1, ← l1, ← l2, q]
          simp
        · have e1 : ¬ PyData.tuple ds = PyData.tuple es := fun w => q (hiff.mp (by injection w))
          rw [decide_eq_false e1, beq_eq_false_iff_ne, ← l1, ← l2]
          intro w
          apply q
          rcases z with z | z
          · subst z
            have a1 : ds2 = [] := List.eq_nil_of_length_eq_zero l1
            subst a1
            exact (List.eq_nil_of_length_eq_zero w.symm).symm
          · subst z
            have a1 : es2 = [] := List.eq_nil_of_length_eq_zero l2
            subst a1
            exact List.eq_nil_of_length_eq_zero w
      show ∃ _, _
      refine ⟨_, rfl, (fun z => nomatch z), ?_⟩
      refine wpAny_truthy_bool ?_
      rw [fin]
      exact h
def EP1 (prog : Program) (w : World) (d : PyData) : Prop := ∀ (A : Around) (s : Shared) (e : PyData) (u v : Value) (Q : Bool → Shared → Prop) (E : Value → Shared → Prop), A.units + dep d < cLine → isAt s.heap d u → isAt s.heap e v → Q (decide (d = e)) s → wpAny (model prog w) A (eqBool u v) Q E s
theorem at_tup {h : Heap} {ds : List PyData} {v : Value} (hx : isAt h (.tuple ds) v) : ∃ a its, v = .ref a ∧ h.IsTuple a its := by
  obtain ⟨a, e, o, its, n, h1, h2, h3, _⟩ := hx
  exact ⟨a, its, e, o, h1, h2, n, h3⟩
mutual
theorem eq_at : ∀ (d : PyData), EP1 prog w d
  | .int i => fun A s e u v Q E hu hx hy h => by
    obtain ⟨t, rfl⟩ := hx
    cases e with
    | int j =>
      obtain ⟨t', rfl⟩ := hy
      refine SeqAt.EqAt.int_int i t j t' prog w E Q ?_
      have e : decide (PyData.int i = PyData.int j) = (i == j) := by rw [Bool.eq_iff_iff]; simp
      rw [← e]
      exact h
    | str x =>
      obtain ⟨t', rfl⟩ := hy
      exact SeqAt.EqAt.int_str i t x t' prog w E Q (by rw [decide_eq_false (fun z => by cases z)] at h; exact h)
    | tuple es =>
      obtain ⟨a, its, rfl, hT⟩ := at_tup hy
      exact SeqAt.EqAt.int_tuple i t hT (by omega) prog w E Q (by rw [decide_eq_false (fun z => by cases z)] at h; exact h)
    | _ => exact hy.elim
  | .str x => fun A s e u v Q E hu hx hy h => by
    obtain ⟨t, rfl⟩ := hx
    cases e with
    | int j =>
      obtain ⟨t', rfl⟩ := hy
      exact SeqAt.EqAt.str_int x t j t' prog w E Q (by rw [decide_eq_false (fun z => by cases z)] at h; exact h)
    | str y =>
      obtain ⟨t', rfl⟩ := hy
      refine SeqAt.EqAt.str_str x t y t' prog w E Q ?_
      have e : decide (PyData.str x = PyData.str y) = (x == y) := by rw [Bool.eq_iff_iff]; simp
      rw [← e]
      exact h
    | tuple es =>
      obtain ⟨a, its, rfl, hT⟩ := at_tup hy
      exact SeqAt.EqAt.str_tuple x t hT (by omega) prog w E Q (by rw [decide_eq_false (fun z => by cases z)] at h; exact h)
    | _ => exact hy.elim
  | .tuple ds => fun A s e u v Q E hu hx hy h => by
    have e1 : dep (.tuple ds) = deps ds + 1 := rfl
    have l := eq_all ds
    cases e with
    | int j =>
      obtain ⟨t', rfl⟩ := hy
      obtain ⟨a, its, rfl, hT⟩ := at_tup hx
      exact SeqAt.EqAt.tuple_int j t' hT (by omega) prog w E Q (by rw [decide_eq_false (fun z => by cases z)] at h; exact h)
    | str y =>
      obtain ⟨t', rfl⟩ := hy
      obtain ⟨a, its, rfl, hT⟩ := at_tup hx
      exact SeqAt.EqAt.tuple_str y t' hT (by omega) prog w E Q (by rw [decide_eq_false (fun z => by cases z)] at h; exact h)
    | tuple es => exact eq_tup A E ds es (fun d hd e s u v Q E hx hy h => l d hd A.in1 s e u v Q E (by have := dep_mem hd; show A.units + 1 + dep d < cLine; omega) hx hy h) s u v Q (by omega) hx hy h
    | _ => exact hy.elim
  | .none => fun _ _ _ _ _ _ _ _ hx _ _ => hx.elim
  | .bool _ => fun _ _ _ _ _ _ _ _ hx _ _ => hx.elim
  | .list _ => fun _ _ _ _ _ _ _ _ hx _ _ => hx.elim
  | .dict _ => fun _ _ _ _ _ _ _ _ hx _ _ => hx.elim
theorem eq_all : ∀ (ds : List PyData), ∀ d ∈ ds, EP1 prog w d
  | [] => fun d hd => by simp at hd
  | e :: es => fun d hd => by
    have h1 := eq_at e
    have h2 := eq_all es
    rcases List.mem_cons.mp hd with z | z
    · rw [z]; exact h1
    · exact h2 d z
end
/-! looks that change nothing -/
theorem quiet_tup {A : Around} {E : Value → Shared → Prop} {s : Shared} (n : Nat) (ds : List PyData) (ih : ∀ d ∈ ds, ∀ (v : Value) (Q : Bool → Shared → Prop), isAt s.heap d v → Q true s → wpAny (model prog w) A (eqIsQuiet n v) Q E s)
    (v : Value) (Q : Bool → Shared → Prop) (hx : isAt s.heap (.tuple ds) v) (h : Q true s) : wpAny (model prog w) A (eqIsQuiet (n + 1) v) Q E s := by
  obtain ⟨a, rfl, o, its, m, ho, hc, hd, hi⟩ := hx
  have hT : s.TypeIs (.ref a) "tuple" := ⟨o, ho, hc⟩
  unfold eqIsQuiet
  refine wpAny_bind (wpAny_specialOf hT F.slot_tuple_eq.lookup ?_)
  show wpAny _ _ (isInstance (.ref a) (.type "tuple") >>= _) _ _ s
  refine wpAny_bind (wpAny_isInstance hT isSubtype_tuple_tuple ?_)
  simp only [Bool.not_true, Bool.false_eq_true, if_false]
  refine wpAny_bind (wpAny_seqItems ho hd ?_)
  refine wpAny_bind ?_
  show wpAny _ _ (forIn its _ _) _ _ s
  rw [← Array.forIn_toList]
  refine wpAny_forIn_list _ (fun rest r s' => r.1 = none ∧ s' = s ∧ ∃ d1 d2, ds = d1 ++ d2 ∧ isAts s.heap d2 rest) _ ?_ ?_ _ _ ⟨rfl, rfl, [], ds, rfl, hi⟩
  · rintro v rest r s' ⟨hr, rfl, d1, d2, e1, e2⟩
    cases d2 with
    | nil => exact e2.elim
    | cons d d2 =>
      refine wpAny_bind (ih d (by rw [e1]; simp) v _ e2.1 ?_)
      simp only [Bool.not_true, Bool.false_eq_true, if_false]
      exact wpAny_pure ⟨rfl, rfl, d1 ++ [d], d2, by rw [e1]; simp, e2.2⟩
  · rintro ⟨r1, r2⟩ s' ⟨hr, rfl, _⟩
    simp only at hr
    subst hr
    exact wpAny_pure h
def QP (prog : Program) (w : World) (d : PyData) : Prop := ∀ (A : Around) (E : Value → Shared → Prop) (s : Shared) (n : Nat) (v : Value) (Q : Bool → Shared → Prop), dep d ≤ n → isAt s.heap d v → Q true s → wpAny (model prog w) A (eqIsQuiet n v) Q E s
mutual
theorem quiet_at : ∀ (d : PyData), QP prog w d
  | .int i => fun A E s n v Q hn hx h => by
    obtain ⟨t, rfl⟩ := hx
    rw [eqIsQuiet_byValue n rfl]
    exact wpAny_pure h
  | .str i => fun A E s n v Q hn hx h => by
    obtain ⟨t, rfl⟩ := hx
    rw [eqIsQuiet_byValue n rfl]
    exact wpAny_pure h
  | .tuple ds => fun A E s n v Q hn hx h => by
    have e1 : dep (.tuple ds) = deps ds + 1 := rfl
    have l := quiet_all ds
    cases n with
    | zero => omega
    | succ n => exact quiet_tup n ds (fun d hd v Q hx h => l d hd A E s n v Q (by have := dep_mem hd; omega) hx h) v Q hx h
  | .none => fun _ _ _ _ _ _ _ hx _ => hx.elim
  | .bool _ => fun _ _ _ _ _ _ _ hx _ => hx.elim
  | .list _ => fun _ _ _ _ _ _ _ hx _ => hx.elim
  | .dict _ => fun _ _ _ _ _ _ _ hx _ => hx.elim
theorem quiet_all : ∀ (ds : List PyData), ∀ d ∈ ds, QP prog w d
  | [] => fun d hd => by simp at hd
  | e :: es => fun d hd => by
    have h1 := quiet_at e
    have h2 := quiet_all es
    rcases List.mem_cons.mp hd with z | z
    · rw [z]; exact h1
    · exact h2 d z
end
end
/-- tuples as keys -/
noncomputable def dkind (prog : Program) (w : World) : HeapKind prog w PyData where
  is := fun h d a => dep d ≤ 8 ∧ isAt h d (.ref a)
  hash := hashD w
  draws := drw
  room := fun A => A.units + 10 < cLine
  inj := fun hx hy => isAt_inj hx.2 hy.2
  keeps := fun {h h' k a d o es ep} hx ho hd hs => ⟨hx.1, isAt_keep (fun b ob its n e1 e2 => by
    by_cases hb : b = d
    · subst hb
      rw [ho] at e1
      cases e1
      rw [hd] at e2
      cases e2
    · exact (hs.2 b hb).trans e1) hx.2⟩
  pyHash := fun {A E s k a Q} hu hx h => hash_at E k A s _ Q (by have := hx.1; omega) hx.2 h
  eqBool := fun {A E s x y a b Q} hu hx hy h => eq_at x A s y _ _ Q E (by have := hx.1; omega) hx.2 hy.2 h
  quiet := fun {A E s k a Q} hx h => quiet_at k A E s 8 _ Q hx.1 hx.2 h
end Z

namespace Z
open PySem L2 PyProof.Rows

/-! ### dicts whose keys are tuples -/
mutual
def kOK : PyData → Bool
  | .int _ => true
  | .str _ => true
  | .tuple ds => kOKs ds
  | _ => false
def kOKs : List PyData → Bool
  | [] => true
  | d :: ds => kOK d && kOKs ds
end
abbrev DEn := PyData × Addr × Value
def DxO (P : Program) (w : World) (a : Addr) (xs : List DEn) : HO := .ext fun h => xs.length ≤ sizeLine ∧ (a == sysModules) = false ∧
  ∃ o es ep, h.get? a = some o ∧ o.ExactDict ∧ o.data = .dict es ep ∧ es.toList = xs.map (entryOfKey (dkind P w)) ∧ (xs.map (·.1)).Nodup
/-- a key as it stands -/
def KyD (K : PySem.W.Frag) (H : Hp) (a : Addr) (d : PyData) : Prop := Dp K H (.ref a) d ∧ kOK d = true ∧ dep d ≤ 8
section
variable {X : Cx} {pins : List (Addr × Obj)} {σ : L2.St} {H : Hp} {s : Shared}
mutual
theorem dp_at (I : Inv X pins σ H s) : ∀ (d : PyData) (v : V) (u : Value), kOK d = true → Dp X.K H v d → RelV v u → isAt s.heap d u
  | .int i, _, _, _, h, r => by cases h; exact r
  | .str i, _, _, _, h, r => by cases h; exact r
  | .tuple ds, _, _, k, h, r => by
    cases h with
    | tup hs ha =>
      cases r
      obtain ⟨its, rv, ⟨o, ho, hc, n, hd⟩, _⟩ := I.tuple hs
      exact ⟨_, rfl, o, _, n, ho, hc, hd, dps_at I ds _ its k ha rv⟩
  | .none, _, _, k, _, _ => by cases k
  | .bool _, _, _, k, _, _ => by cases k
  | .list _, _, _, k, _, _ => by cases k
  | .dict _, _, _, k, _, _ => by cases k
theorem dps_at (I : Inv X pins σ H s) : ∀ (ds : List PyData) (vs : List V) (us : List Value), kOKs ds = true → DpAll X.K H vs ds → Vals vs us → isAts s.heap ds us
  | [], _, _, _, h, r => by cases h; cases r; trivial
  | d :: ds, _, _, k, h, r => by
    cases h with
    | cons h1 h2 =>
      cases r with
      | cons r1 r2 =>
        have k' : (kOK d && kOKs ds) = true := k
        rw [Bool.and_eq_true] at k'
        exact ⟨dp_at I d _ _ k'.1 h1 r1, dps_at I ds _ _ k'.2 h2 r2⟩
end
theorem dx_of {P : Program} {w : World} {h : Heap} {a : Addr} {xs : List DEn} (ok : HOk P w H h) (e : H a = some (DxO P w a xs)) : xs.length ≤ sizeLine ∧ (a == sysModules) = false ∧ ∃ o es ep, h.get? a = some o ∧ o.ExactDict ∧ o.data = .dict es ep ∧ es.toList = xs.map (entryOfKey (dkind P w)) ∧ (xs.map (·.1)).Nodup := (ok a _ e).1
theorem dx_new {P : Program} {w : World} {h : Heap} {a : Addr} {xs : List DEn} (h1 : xs.length ≤ sizeLine) (h2 : (a == sysModules) = false) (h3 : ∃ o es ep, h.get? a = some o ∧ o.ExactDict ∧ o.data = .dict es ep ∧ es.toList = xs.map (entryOfKey (dkind P w)) ∧ (xs.map (·.1)).Nodup) : ObjOk P w H h a (DxO P w a xs) :=
  ⟨⟨h1, h2, h3⟩, let ⟨o, _, _, e, _⟩ := h3; ⟨o, e⟩, fun g1 g2 ⟨p1, p2, o, es, ep, e, r⟩ k => ⟨p1, p2, o, es, ep, k o e, r⟩⟩
theorem dx_H (I : Inv X pins σ H s) {a : Addr} {xs : List DEn} (e : H a = some (DxO X.prog X.w a xs)) (k : ∀ x ∈ xs, KyD X.K H x.2.1 x.1) : xs.length ≤ sizeLine ∧ (a == sysModules) = false ∧ s.heap.DictOfH (dkind X.prog X.w) a xs := by
  obtain ⟨h1, h2, o, es, ep, h3, h4, h5, h6, h7⟩ := dx_of I.hok e
  exact ⟨h1, h2, o, es, ep, h3, h4, h5, h6, fun x hx => ⟨(k x hx).2.2, dp_at I _ _ _ (k x hx).2.1 (k x hx).1 rfl⟩, h7⟩
theorem nd_sub {α : Type} [DecidableEq α] {l1 : List α} : ∀ (_ : l1.Nodup) {l2 : List α} (_ : ∀ x ∈ l1, x ∈ l2), l1.length ≤ l2.length := by
  induction l1 with
  | nil => intro _ _ _; exact Nat.zero_le _
  | cons a l ih =>
    intro nd l2 h
    rw [List.nodup_cons] at nd
    have h1 := ih nd.2 (l2 := l2.erase a) fun x hx => (List.mem_erase_of_ne (fun (e : x = a) => nd.1 (by rw [← e]; exact hx))).mpr (h x (List.mem_cons_of_mem _ hx))
    have h2 : a ∈ l2 := h a List.mem_cons_self
    have h3 := List.length_erase_of_mem h2
    have h4 := List.length_pos_of_mem h2
    rw [List.length_cons]
    omega
/-- what stands at a key -/
noncomputable def atD (xs : List DEn) (d : PyData) : Option Value := (atKey xs d).map (·.2)
def rInX (X : Cx) (neg : Bool) : R2 := fun x y H Q => ∃ p b xs d, y = .ref p ∧ x = .ref b ∧ H p = some (DxO X.prog X.w p xs) ∧ (∀ e ∈ xs, KyD X.K H e.2.1 e.1) ∧ KyD X.K H b d ∧ Q (.bl (if neg then !(atKey xs d).isSome else (atKey xs d).isSome)) H
theorem op_inX (hu : X.A.units + 20 < cLine) : OpR X (compareOp .In) (rInX X false) := by
  intro pins s σ H x y v u Q I rx ry h
  obtain ⟨p, b, xs, d, rfl, rfl, hp, hk, hb, q⟩ := h
  cases rx
  cases ry
  obtain ⟨h1, h2, h3⟩ := dx_H I hp hk
  exact wpAny_in_heap (knd := dkind X.prog X.w) (k := d) (show X.A.units + 1 + 10 < cLine by omega) ⟨hb.2.2, dp_at I _ _ _ hb.2.1 hb.1 rfl⟩ h2 h3 ⟨.bl _, H, I.tok _, rfl, q⟩
theorem op_ninX (hu : X.A.units + 20 < cLine) : OpR X (compareOp .NotIn) (rInX X true) := by
  intro pins s σ H x y v u Q I rx ry h
  obtain ⟨p, b, xs, d, rfl, rfl, hp, hk, hb, q⟩ := h
  cases rx
  cases ry
  obtain ⟨h1, h2, h3⟩ := dx_H I hp hk
  exact wpAny_notIn_heap (knd := dkind X.prog X.w) (k := d) (show X.A.units + 1 + 10 < cLine by omega) ⟨hb.2.2, dp_at I _ _ _ hb.2.1 hb.1 rfl⟩ h2 h3 ⟨.bl _, H, I.tok _, rfl, q⟩
def rIxX (X : Cx) : R2 := fun x y H Q => ∃ p b xs d c u v, x = .ref p ∧ y = .ref b ∧ H p = some (DxO X.prog X.w p xs) ∧ (∀ e ∈ xs, KyD X.K H e.2.1 e.1) ∧ KyD X.K H b d ∧ atKey xs d = some (c, u) ∧ RelV v u ∧ Q v H
theorem ix_X (hu : X.A.units + 20 < cLine) : IxR X (rIxX X) := by
  intro value slice pins s σ H x y v u Q I rx ry h hs
  obtain ⟨p, b, xs, d, c, u', v', rfl, rfl, hp, hk, hb, ha, rv, q⟩ := h
  cases rx
  cases ry
  obtain ⟨h1, h2, h3⟩ := dx_H I hp hk
  refine tail_any h3.typeIs slot_dict_getitem.lookup ?_ hs
  exact wpAny_getItem_heap (knd := dkind X.prog X.w) (k := d) (show X.A.units + 1 + 10 < cLine by omega) ⟨hb.2.2, dp_at I _ _ _ hb.2.1 hb.1 rfl⟩ h3 ha ⟨v', H, I.tok _, rv, q⟩
def rPutX (X : Cx) : TSet := fun o i v H Q => ∃ p b xs d, o = .ref p ∧ i = .ref b ∧ H p = some (DxO X.prog X.w p xs) ∧ (∀ e ∈ xs, KyD X.K H e.2.1 e.1) ∧ KyD X.K H b d ∧ (∃ U : List PyData, U.length < sizeLine ∧ ∀ e ∈ xs, e.1 ∈ U) ∧ ∀ u, RelV v u → Q (upd H p (DxO X.prog X.w p (storedH xs d b u)))
theorem put_X (hu : X.A.units + 20 < cLine) : PSet X (rPutX X) := by
  intro pins s σ H o i v ov iv u Q I ro ri rv h
  obtain ⟨p, b, xs, d, rfl, rfl, hp, hk, hb, ⟨U, hU, hin⟩, q⟩ := h
  cases ro
  cases ri
  have hl : xs.length < sizeLine := by
    obtain ⟨_, _, _, _, _, _, _, _, _, nd⟩ := dx_of I.hok hp
    have := (nd_sub nd (l2 := U) fun x hx => by obtain ⟨e, he, q⟩ := List.mem_map.mp hx; rw [← q]; exact hin e he)
    rw [List.length_map] at this
    omega
  obtain ⟨h1, h2, h3⟩ := dx_H I hp hk
  refine wpAny_setItem_heap (knd := dkind X.prog X.w) (k := d) (hsz := h1) (show X.A.units + 1 + 10 < cLine by omega) ⟨hb.2.2, dp_at I _ _ _ hb.2.1 hb.1 rfl⟩ h3 fun h' hm hs => ?_
  obtain ⟨o, es, ep, e1, e2, e3, e4, _, e6⟩ := hm
  have ln : (storedH xs d b u).length ≤ sizeLine := by
    unfold storedH
    split
    · simpa using h1
    · simp; omega
  refine ⟨_, d_write (ob := DxO X.prog X.w p (storedH xs d b u)) I (by rw [hp]; exact True.intro) hs ⟨o, e1⟩ (dx_new ln h2 ⟨o, es, ep, e1, e2, e3, e4, e6⟩), q u rv⟩
/-- {} -/
theorem pe_newX {pos : Pos} : PE X (.Dict [] [] pos) (fun _ H Q => ∀ p, H p = none → Q (.ref p) (upd H p (DxO X.prog X.w p []))) := by
  refine ⟨fun pins s σ H Q I h => ?_⟩
  refine wpAny_Dict_empty ⟨.ref s.heap.objs.size, _, I.laid (a := s.heap.objs.size) (o := DxO X.prog X.w s.heap.objs.size []) (t' := s.toks) (fun _ _ q => Heap.get?_push_of_some _ q) (Nat.le_refl _) ?_, rfl, h _ (I.hok.fresh (Nat.le_refl _))⟩
  refine dx_new (Nat.zero_le _) ?_ ⟨_, #[], 0, Heap.get?_push_size _ rfl, ⟨rfl, rfl, rfl⟩, rfl, rfl, List.nodup_nil⟩
  exact beq_eq_false_iff_ne.mpr (Nat.ne_of_gt I.big)
end
end Z

namespace Z
open PySem L2 PyProof.Rows

/-! ### own things, weakened -/
section
variable {X : Cx} {e a b c : Expr} {es : List Expr} {st : Stmt} {rest body : List Stmt} {s s' s1 s2 s3 : S} {r : SD} {rs : List SD} {pos p : Pos} {R : Bool → S → Prop} {k : Bool} {P : Po} {M : S → Prop} {ds : List PyData} {x y : PyData} {i j : Int}
def OLe (P Q : Own) : Prop := ∀ K F H v fp, P.holds K F H v fp → Q.holds K F H v fp
theorem Sat.wkO {K : PySem.W.Frag} {σ : L2.St} {ρ : List V} {T : List En} {H : Hp} {j : Nat} {O Q : Own} (g : Sat K s σ ρ T H) (hj : s.R[j]? = some O) (h : OLe O Q) : Sat K ⟨s.e, s.R.set j Q⟩ σ ρ T H := by
  obtain ⟨v, e2, ok, bk⟩ := g.obj hj
  refine bk H Q ?_
  obtain ⟨F, L, e1, g1⟩ := ok
  cases L with
  | nil => simp at e1
  | cons z L =>
    obtain ⟨z1, fp⟩ := z
    simp at e1
    obtain ⟨e3, e4⟩ := e1
    subst e3
    obtain ⟨u, e5, h5⟩ := g1.ent _ List.mem_cons_self
    have nd := g1.nd
    have ow := g1.own
    unfold fpsOf at nd ow
    rw [List.flatMap_cons] at nd ow
    obtain ⟨n1, n2, n3⟩ := List.nodup_append.mp nd
    have ev : v = u := Option.some.inj e5
    subst ev
    refine ⟨F, (((IT.o Q, some v), fp) :: L), by rw [List.map_cons, e4], g1.tail.oCons (h _ _ _ _ _ h5) n1 (fun a ha hb => n3 a ha a hb rfl) fun a ha => ow a (List.mem_append_left _ ha)⟩
theorem zss_wkO {j : Nat} {O Q : Own} (hj : s.R[j]? = some O) (h : OLe O Q) (k : ZSs X rest ⟨s.e, s.R.set j Q⟩ P) : ZSs X rest s P := PSs.imp k fun D σ H ⟨t, T, ρ, e1, hb, g, q⟩ => by
  subst e1
  exact ⟨_, T, ρ, rfl, hb, g.wkO hj h, q⟩
theorem set_self {α : Type} {l : List α} {j : Nat} {a : α} (h : l[j]? = some a) : l.set j a = l := by
  obtain ⟨hj, e⟩ := List.getElem?_eq_some_iff.mp h
  subst e
  exact List.set_getElem_self hj

/-! ### memos -/
/-- a dict of answers: each told answer is right -/
def OM (pr : Program) (w : World) (f : PyData → PyData → Prop) : Own where
  holds := fun K F H v fp => ∃ p xs, v = .ref p ∧ fp = [p] ∧ H p = some (DxO pr w p xs) ∧ ∀ e ∈ xs, KyD K F e.2.1 e.1 ∧ ∃ vv dv, RelV vv e.2.2 ∧ Dp K F vv dv ∧ f e.1 dv
  stay := fun ⟨p, xs, e1, e2, e3, e4⟩ e k => ⟨p, xs, e1, e2, k p (by rw [e2]; simp) _ e3, fun z hz => let ⟨⟨a1, a2, a3⟩, vv, dv, a4, a5, a6⟩ := e4 z hz; ⟨⟨dpUp e _ _ a1, a2, a3⟩, vv, dv, a4, dpUp e _ _ a5, a6⟩⟩
/-- .. that knows the key d -/
def OMk (pr : Program) (w : World) (f : PyData → PyData → Prop) (d : PyData) : Own where
  holds := fun K F H v fp => ∃ p xs, v = .ref p ∧ fp = [p] ∧ H p = some (DxO pr w p xs) ∧ (atKey xs d).isSome = true ∧ ∀ e ∈ xs, KyD K F e.2.1 e.1 ∧ ∃ vv dv, RelV vv e.2.2 ∧ Dp K F vv dv ∧ f e.1 dv
  stay := fun ⟨p, xs, e1, e2, e3, e0, e4⟩ e k => ⟨p, xs, e1, e2, k p (by rw [e2]; simp) _ e3, e0, fun z hz => let ⟨⟨a1, a2, a3⟩, vv, dv, a4, a5, a6⟩ := e4 z hz; ⟨⟨dpUp e _ _ a1, a2, a3⟩, vv, dv, a4, dpUp e _ _ a5, a6⟩⟩
theorem OMk.le {pr : Program} {w : World} {f : PyData → PyData → Prop} {d : PyData} : OLe (OMk pr w f d) (OM pr w f) := fun K F H v fp ⟨p, xs, e1, e2, e3, _, e4⟩ => ⟨p, xs, e1, e2, e3, e4⟩
theorem ze_newM (f : PyData → PyData → Prop) : ZE X (.Dict [] [] pos) s (.r s.R.length) ⟨s.e, s.R ++ [OM X.prog X.w f]⟩ :=
  PE.imp pe_newX fun σ H Q ⟨T, ρ, g, k⟩ => fun p hp => by
    refine k _ (ρ ++ [.ref p]) _ (List.prefix_append _ _) g.newVR (Sat.tun ?_)
    obtain ⟨F, f1⟩ := g.ok.fz
    exact Sat.push (f1.newO hp ⟨p, [], rfl, rfl, upd_same, fun e he => by simp at he⟩) g.le g.lr g.al
theorem kyd {K : PySem.W.Frag} {H : Hp} {v : V} (h : Dp K H v (.tuple ds)) (k1 : kOK (.tuple ds) = true) (k2 : dep (.tuple ds) ≤ 8) : ∃ b, v = .ref b ∧ KyD K H b (.tuple ds) := by
  cases h with
  | tup hs ha => exact ⟨_, rfl, .tup hs ha, k1, k2⟩
theorem KyD.up {K : PySem.W.Frag} {F H : Hp} {a : Addr} {d : PyData} (e : Ext F H) (h : KyD K F a d) : KyD K H a d := ⟨dpUp e _ _ h.1, h.2.1, h.2.2⟩
theorem storedH_mem {xs : List DEn} {d : PyData} {b : Addr} {u : Value} {e : DEn} (h : e ∈ storedH xs d b u) : e ∈ xs ∨ e = (d, b, u) ∨ ∃ z ∈ xs, z.1 = d ∧ e = (d, z.2.1, u) := by
  unfold storedH at h
  split at h
  · obtain ⟨z, hz, e1⟩ := List.mem_map.mp h
    unfold putAt at e1
    split at e1
    · rename_i hd
      subst e1
      exact .inr (.inr ⟨z, hz, hd, by rw [hd]⟩)
    · subst e1
      exact .inl hz
  · rcases List.mem_append.mp h with h | h
    · exact .inl h
    · exact .inr (.inl (by simpa using h))
theorem storedH_has {xs : List DEn} {d : PyData} {b : Addr} {u : Value} : (atKey (storedH xs d b u) d).isSome = true := by
  unfold storedH
  split
  · rename_i h
    unfold atKey at h ⊢
    rw [Option.isSome_map] at h ⊢
    rw [List.find?_isSome] at h ⊢
    obtain ⟨z, hz, e⟩ := h
    refine ⟨putAt d u z, List.mem_map.mpr ⟨z, hz, rfl⟩, ?_⟩
    have e1 : z.1 = d := of_decide_eq_true e
    unfold putAt
    rw [if_pos e1]
    exact e
  · unfold atKey
    rw [Option.isSome_map, List.find?_isSome]
    exact ⟨(d, b, u), by simp, by simp⟩
/-- a memo among the objects -/
theorem Sat.memo {K : PySem.W.Frag} {pr : Program} {w : World} {f : PyData → PyData → Prop} {σ : L2.St} {ρ : List V} {T : List En} {H : Hp} {o : Nat} {v : V} {O : Own} (g : Sat K s σ ρ T H) (ho : s.R[o]? = some O) (hO : OLe O (OM pr w f)) (hv : ρ[o]? = some v) :
    ∃ F p xs, v = .ref p ∧ H p = some (DxO pr w p xs) ∧ Ext F H ∧ (∀ {x u}, (IT.d x, some u) ∈ T → Dp K F u x) ∧ (∀ e ∈ xs, KyD K F e.2.1 e.1 ∧ ∃ vv dv, RelV vv e.2.2 ∧ Dp K F vv dv ∧ f e.1 dv) ∧
      (∀ d, (atKey xs d).isSome = true → Sat K ⟨s.e, s.R.set o (OMk pr w f d)⟩ σ ρ T H) ∧ (∀ {x u}, Dp K F u x → Sat K s σ ρ ((IT.d x, some u) :: T) H) ∧
      ∀ d b u vv dv, KyD K F b d → RelV vv u → Dp K F vv dv → f d dv → Sat K ⟨s.e, s.R.set o (OMk pr w f d)⟩ σ ρ T (upd H p (DxO pr w p (storedH xs d b u))) := by
  obtain ⟨v', e2, ok, bk⟩ := g.obj ho
  have ev : v' = v := Option.some.inj (e2.symm.trans hv)
  subst ev
  obtain ⟨F, L, e1, g1⟩ := ok
  cases L with
  | nil => simp at e1
  | cons z L =>
    obtain ⟨z1, fp⟩ := z
    simp at e1
    obtain ⟨e3, e4⟩ := e1
    subst e3
    obtain ⟨u, e5, h0⟩ := g1.ent _ List.mem_cons_self
    have e5' : v' = u := Option.some.inj e5
    subst e5'
    obtain ⟨p, xs, h1, h2, h3, h4⟩ := hO _ _ _ _ _ h0
    have nd := g1.nd
    have ow := g1.own
    unfold fpsOf at nd ow
    rw [List.flatMap_cons] at nd ow
    obtain ⟨n1, n2, n3⟩ := List.nodup_append.mp nd
    have h2' : fp = [p] := h2
    subst h2'
    have fz : Fz K F (T ++ (ES s.e σ ++ (RS s.R ρ).set o (IT.un, some v'))) H := ⟨L, e4, g1.tail⟩
    refine ⟨F, p, xs, h1, h3, g1.ext, fun {x u} m => ?_, h4, fun d hd => bk H _ ⟨F, (((IT.o (OMk pr w f d), some v'), [p]) :: L), by rw [List.map_cons, e4], ?_⟩, fun {x u} hx => ?_, fun d b u vv dv hb hu hd hf => bk _ _ ⟨F, (((IT.o (OMk pr w f d), some v'), [p]) :: L), by rw [List.map_cons, e4], ?_⟩⟩
    · obtain ⟨u', e6, hd⟩ := fz.at (List.mem_append_left _ m)
      cases e6
      exact hd
    · exact g1.tail.oCons ⟨p, xs, h1, rfl, h3, hd, h4⟩ n1 (fun a ha hb => n3 a ha a hb rfl) fun a ha => ow a (List.mem_append_left _ ha)
    · have whole : Fz K F ((IT.o O, some v') :: (T ++ (ES s.e σ ++ (RS s.R ρ).set o (IT.un, some v')))) H := ⟨(((IT.o O, some v'), [p]) :: L), by rw [List.map_cons, e4], g1⟩
      have a1 := (whole.add hx).ok
      have a2 : OK K ((IT.o O, some v') :: (((IT.d x, some u) :: T) ++ (ES s.e σ ++ (RS s.R ρ).set o (IT.un, some v')))) H := a1.perm (List.Perm.swap _ _ _)
      have b := ZE.frz.back2 (T2 := (IT.d x, some u) :: T) g ho hv a2
      rw [set_self ho] at b
      exact b
    · refine g1.change (H' := upd H p (DxO pr w p (storedH xs d b u))) (Q := OMk pr w f d) ⟨p, _, h1, rfl, upd_same, storedH_has, fun e he => ?_⟩ (fun a o' ha e => ?_) fun a ha => ?_
      · rcases storedH_mem he with q | q | ⟨z, hz, q1, q2⟩
        · exact h4 e q
        · subst q
          exact ⟨hb, vv, dv, hu, hd, hf⟩
        · subst q2
          have := (h4 z hz).1
          rw [q1] at this
          exact ⟨this, vv, dv, hu, hd, hf⟩
      · rw [upd_ne (by simpa using ha)]; exact e
      · have e : a = p := by simpa using ha
        subst e
        exact ⟨_, upd_same⟩
variable {f : PyData → PyData → Prop} {o : Nat}
/-- key in memo, key not in memo -/
theorem zt_in (ho : s2.R[o]? = some (OM X.prog X.w f)) (ha : ZE X a s (.d (.tuple ds)) s1) (hb : ZE X b s1 (.r o) s2) (k1 : kOK (.tuple ds) = true) (k2 : dep (.tuple ds) ≤ 8) (hu : X.A.units + 20 < cLine) (hm : behindInMarks .In b = false := by rfl) :
    ZT X (.Compare a [.In] [b] pos) s (fun k t => t = if k = true then ⟨s2.e, s2.R.set o (OMk X.prog X.w f (.tuple ds))⟩ else s2) := by
  refine PT.imp (pt_cmpR (op_inX hu) ha hb hm) fun σ H Q ⟨T, ρ, g, q⟩ => ⟨T, ρ, g, fun u ρ1 H1 p1 vr1 g1 => ⟨_, ρ1, g1, fun w ρ2 H2 p2 vr2 g2 => ?_⟩⟩
  obtain ⟨F, p, xs, e1, hp, ex, dp, hx, kn, _, _⟩ := g2.memo ho (fun _ _ _ _ _ h => h) vr2
  subst e1
  obtain ⟨b', e2, hk⟩ := kyd (dp (x := .tuple ds) (u := u) (List.mem_cons_of_mem _ List.mem_cons_self)) k1 k2
  subst e2
  refine ⟨p, b', xs, _, rfl, rfl, hp, fun e he => (hx e he).1.up ex, hk.up ex, _, rfl, ?_⟩
  rw [if_neg Bool.false_ne_true]
  cases hc : (atKey xs (PyData.tuple ds)).isSome with
  | true => exact q true _ ρ2 H2 (if_pos rfl).symm (p1.trans p2) (kn _ hc).tdrop.tdrop
  | false => exact q false _ ρ2 H2 (if_neg Bool.false_ne_true).symm (p1.trans p2) g2.tdrop.tdrop
theorem zt_nin (ho : s2.R[o]? = some (OM X.prog X.w f)) (ha : ZE X a s (.d (.tuple ds)) s1) (hb : ZE X b s1 (.r o) s2) (k1 : kOK (.tuple ds) = true) (k2 : dep (.tuple ds) ≤ 8) (hu : X.A.units + 20 < cLine) (hm : behindInMarks .NotIn b = false := by rfl) :
    ZT X (.Compare a [.NotIn] [b] pos) s (fun k t => t = if k = true then s2 else ⟨s2.e, s2.R.set o (OMk X.prog X.w f (.tuple ds))⟩) := by
  refine PT.imp (pt_cmpR (op_ninX hu) ha hb hm) fun σ H Q ⟨T, ρ, g, q⟩ => ⟨T, ρ, g, fun u ρ1 H1 p1 vr1 g1 => ⟨_, ρ1, g1, fun w ρ2 H2 p2 vr2 g2 => ?_⟩⟩
  obtain ⟨F, p, xs, e1, hp, ex, dp, hx, kn, _, _⟩ := g2.memo ho (fun _ _ _ _ _ h => h) vr2
  subst e1
  obtain ⟨b', e2, hk⟩ := kyd (dp (x := .tuple ds) (u := u) (List.mem_cons_of_mem _ List.mem_cons_self)) k1 k2
  subst e2
  refine ⟨p, b', xs, _, rfl, rfl, hp, fun e he => (hx e he).1.up ex, hk.up ex, _, rfl, ?_⟩
  rw [if_pos rfl]
  cases hc : (atKey xs (PyData.tuple ds)).isSome with
  | true => exact q false _ ρ2 H2 (if_neg Bool.false_ne_true).symm (p1.trans p2) (kn _ hc).tdrop.tdrop
  | false => exact q true _ ρ2 H2 (if_pos rfl).symm (p1.trans p2) g2.tdrop.tdrop
/-- memo[key], the key there -/
theorem ze_memo (ho : s2.R[o]? = some (OMk X.prog X.w f (.tuple ds))) (hf : ∀ y, f (.tuple ds) y → y = x) (ha : ZE X a s (.r o) s1) (hb : ZE X b s1 (.d (.tuple ds)) s2) (k1 : kOK (.tuple ds) = true) (k2 : dep (.tuple ds) ≤ 8) (hu : X.A.units + 20 < cLine) (hs : PlainIx b := by intro _ _; rfl) :
    ZE X (.Subscript a b pos) s (.d x) ⟨s2.e, s2.R.set o (OM X.prog X.w f)⟩ := by
  refine PE.imp (pe_ix (ix_X hu) ha hb hs) fun σ H Q ⟨T, ρ, g, q⟩ => ⟨T, ρ, g, fun u ρ1 H1 p1 vr1 g1 => ⟨_, ρ1, g1, fun w ρ2 H2 p2 vr2 g2 => ?_⟩⟩
  obtain ⟨v0, e0, ok, bk⟩ := g2.obj ho
  have ev : v0 = u := Option.some.inj (e0.symm.trans (VR.mono (r := .r o) vr1 p2))
  subst ev
  obtain ⟨F, f1⟩ := ok.fz
  obtain ⟨u', fp, e3, p, xs, e4, e5, e6, e7, e8⟩ := f1.own List.mem_cons_self
  cases e3
  subst e4
  obtain ⟨w', e9, hd⟩ := f1.at (x := .tuple ds) (v := some w) (List.mem_cons_of_mem _ (List.mem_append_left _ List.mem_cons_self))
  cases e9
  obtain ⟨b', e10, hk⟩ := kyd hd k1 k2
  subst e10
  obtain ⟨⟨c, val⟩, hc⟩ := Option.isSome_iff_exists.mp e7
  -- the entry that was found
  have hm : (PyData.tuple ds, c, val) ∈ xs := by
    unfold atKey at hc
    obtain ⟨z, hz, e⟩ := Option.map_eq_some_iff.mp hc
    have h1 := List.mem_of_find?_eq_some hz
    have h0 := List.find?_some (p := fun x : DEn => decide (x.fst = PyData.tuple ds)) hz
    have h2 : z.1 = PyData.tuple ds := of_decide_eq_true h0
    rw [← h2, show (z.1, c, val) = z by rw [← e]]
    exact h1
  obtain ⟨_, vv, dv, r1, r2, r3⟩ := e8 _ hm
  have ed : dv = x := hf dv r3
  subst ed
  refine ⟨p, b', xs, _, c, val, vv, rfl, rfl, e6, fun e he => (e8 e he).1.up f1.ext, hk.up f1.ext, hc, r1, ?_⟩
  have g3 := (g2.wkO ho OMk.le)
  have hj : o < s2.R.length := (List.getElem?_eq_some_iff.mp ho).1
  -- the datum on top
  have a1 := (f1.add r2).ok
  have a2 : OK X.K ((IT.o (OMk X.prog X.w f (.tuple ds)), some (V.ref p)) :: (((IT.d dv, some vv) :: ((IT.d (.tuple ds), some (.ref b')) :: (itOf (SD.r o), some (V.ref p)) :: T)) ++ (ES s2.e σ ++ (RS s2.R ρ2).set o (IT.un, some (V.ref p))))) H2 := a1.perm (List.Perm.swap _ _ _)
  have b := ZE.frz.back2 (T2 := (IT.d dv, some vv) :: ((IT.d (.tuple ds), some (.ref b')) :: (itOf (SD.r o), some (V.ref p)) :: T)) g2 ho e0 a2
  rw [set_self ho] at b
  have b2 := b.wkO ho OMk.le
  refine q vv ρ2 H2 (p1.trans p2) trivial ?_
  exact (b2.tperm ((List.perm_append_comm (l₁ := [(IT.d dv, some vv)]) (l₂ := [(IT.d (.tuple ds), some (.ref b')), (itOf (SD.r o), some (V.ref p))])).append_right T)).tdrops (T1 := [(IT.d (.tuple ds), some (.ref b')), (itOf (SD.r o), some (V.ref p))])
/-- memo[key] = value -/
theorem zss_memo {tpos : Pos} {U : List PyData} (he : ZE X e s (.d x) s1) (ha : ZE X a s1 (.r o) s2) (hb : ZE X b s2 (.d (.tuple ds)) s3) (ho : s3.R[o]? = some (OM X.prog X.w f)) (hf : f (.tuple ds) x) (hU : ∀ k v, f k v → k ∈ U) (hz : U.length < sizeLine) (k1 : kOK (.tuple ds) = true) (k2 : dep (.tuple ds) ≤ 8) (hu : X.A.units + 20 < cLine)
    (k : ZSs X rest ⟨s3.e, s3.R.set o (OMk X.prog X.w f (.tuple ds))⟩ P)
    (hsub : ∀ v, assign (.Subscript a b tpos) X.env v = (do
      let ov ← holding [v] (eval a X.env)
      let iv ← holding [v, ov] (eval b X.env)
      standAt tpos
      holding [v, ov, iv] (setItem ov iv v)
      release [v, ov, iv] []) := by intro _; rfl)
    (hs : swapsWithSole [.Subscript a b tpos] e pos.line X.env = pure false := by rfl) (hw : swappedStores [.Subscript a b tpos] e X.env = pure none := by rfl) (h1 : (assignEach [.Subscript a b tpos] X.env).map (·.2) = [assign (.Subscript a b tpos) X.env] := by rfl) :
    ZSs X (.Assign [.Subscript a b tpos] e pos :: rest) s P := by
  refine zss_seq (M := fun t => t = ⟨s3.e, s3.R.set o (OMk X.prog X.w f (.tuple ds))⟩) (PS.imp (ps_asg he (pg_sub ha hb (put_X hu) hsub) hs hw h1) fun D σ H ⟨t, T, ρ, e1, hb0, g, q⟩ => ?_) fun t e => by subst e; exact k
  subst e1
  refine ⟨T, ρ, g, fun v ρ1 H1 p1 vr1 g1 => ⟨_, ρ1, g1, fun u ρ2 H2 p2 vr2 g2 => ⟨_, ρ2, g2, fun w ρ3 H3 p3 vr3 g3 => ?_⟩⟩⟩
  obtain ⟨F, p, xs, e1, hp, ex, dp, hx, kn, _, put⟩ := g3.memo ho (fun _ _ _ _ _ h => h) (VR.mono (r := .r o) vr2 p3)
  subst e1
  obtain ⟨b', e2, hk⟩ := kyd (dp (x := .tuple ds) (u := w) List.mem_cons_self) k1 k2
  subst e2
  have hv : Dp X.K F v x := dp (List.mem_cons_of_mem _ (List.mem_cons_of_mem _ List.mem_cons_self))
  refine ⟨p, b', xs, _, rfl, rfl, hp, fun e he => (hx e he).1.up ex, hk.up ex, ⟨U, hz, fun e he => let ⟨_, _, _, _, _, h⟩ := hx e he; hU _ _ h⟩, fun val rv => q.nx _ σ ρ3 _ rfl ((List.take_prefix _ _).trans ((p1.trans p2).trans p3)) (put _ b' val v x hk rv hv hf).tdrop.tdrop.tdrop⟩
end
end Z

namespace Z
open PySem L2 PyProof.Rows

/-! ### isinstance -/
def tyN : PyData → String
  | .none => "NoneType"
  | .bool _ => "bool"
  | .int _ => "int"
  | .str _ => "str"
  | .list _ => "list"
  | .tuple _ => "tuple"
  | .dict _ => "dict"
theorem sqL_ty {K : PySem.W.Frag} {H : Hp} {a : Addr} {xs : List V} (h : SqL K H a xs) : TyX K H (.ref a) (.type "list") := by
  rcases h with (h | ⟨o, h⟩) | ⟨o, its, n, hk, hc, _⟩
  · exact .base (.lst h)
  · exact .base (.frz h)
  · exact .kList hk hc
theorem sqT_ty {K : PySem.W.Frag} {H : Hp} {a : Addr} {xs : List V} (h : SqT K H a xs) : TyX K H (.ref a) (.type "tuple") := by
  rcases h with (h | ⟨o, h⟩) | ⟨o, its, n, hk, hc, _⟩
  · exact .base (.tup h)
  · exact .fTuple h
  · exact .kTuple hk hc
theorem dp_ty {K : PySem.W.Frag} {H : Hp} {v : V} {x : PyData} (h : Dp K H v x) : TyX K H v (.type (tyN x)) := by
  cases h with
  | non => exact .base .non
  | bl b => exact .base (.bl b)
  | int i => exact .base (.int i)
  | str y => exact .base (.str y)
  | lst hs ha => exact sqL_ty hs
  | tup hs ha => exact sqT_ty hs
section
variable {X : Cx} {e a b c : Expr} {es : List Expr} {s s' s1 s2 s3 : S} {r r1 r2 : SD} {rs : List SD} {pos p q : Pos} {k : Bool} {x y z : PyData} {ds : List PyData} {T : Str} {n : String}
theorem ze_isi (w : Vw s1 r x) (hk : kitB (tyN x) n = some k) (ha : ZE X a s r s1) (hm : X.mg "isinstance" = none) (hmT : X.mg T = none) (hv : bootBuiltins T = some (.type n) := by decide +kernel) (hg : Gl X T := by rfl) (hc : Cl X "isinstance" a [.Name T q] pos := by exact ⟨rfl, rfl, rfl⟩)
    (hs : starEach [Expr.Name T q] X.env = [(false, eval (.Name T q) X.env)] := by rfl) (hn : T ≠ "__name__" := by decide) (hd : (T == ("__debug__" : Str)) = false := by decide) :
    ZE X (.Call (.Name "isinstance" p) [a, .Name T q] [] pos) s (.d (.bool k)) s1 := by
  refine PE.imp (pe_callB call_isi hc.1 hm (by decide +kernel) (pa_cons ha (pa_cons (pe_bltn hg hmT hv (v := .ty n) rfl hn hd) pa_nil hs) hc.2.1) (by decide) (by decide) hc.2.1 hc.2.2) fun σ H Q ⟨T, ρ, g, q⟩ => ⟨T, ρ, g, fun v ρ' H' p vr g' => ?_⟩
  have d := g'.see List.mem_cons_self vr w
  exact ⟨_, _, _, _, k, rfl, .ty n, dp_ty d, kit_ty hk, q _ ρ' H' p trivial (g'.tdrop.tflat (show flat (.bl k) (.bool k) from rfl))⟩
theorem zt_isi (w : Vw s1 r x) (hk : kitB (tyN x) n = some k) (ha : ZE X a s r s1) (hm : X.mg "isinstance" = none) (hmT : X.mg T = none) (hv : bootBuiltins T = some (.type n) := by decide +kernel) (hg : Gl X T := by rfl) (hc : Cl X "isinstance" a [.Name T q] pos := by exact ⟨rfl, rfl, rfl⟩)
    (hs : starEach [Expr.Name T q] X.env = [(false, eval (.Name T q) X.env)] := by rfl) (hn : T ≠ "__name__" := by decide) (hd : (T == ("__debug__" : Str)) = false := by decide) :
    ZT X (.Call (.Name "isinstance" p) [a, .Name T q] [] pos) s (Is k s1) := zt_tru (ze_isi w hk ha hm hmT hv hg hc hs hn hd) (.d _) trivial
def isTup : PyData → Bool | .tuple _ => true | _ => false
def isLst : PyData → Bool | .list _ => true | _ => false
def isBl : PyData → Bool | .bool _ => true | _ => false
def isInt : PyData → Bool | .bool _ => true | .int _ => true | _ => false
def isStr : PyData → Bool | .str _ => true | _ => false
def isNon : PyData → Bool | .none => true | _ => false
theorem kit_tup (x : PyData) : kitB (tyN x) "tuple" = some (isTup x) := by
  have h : kitB "NoneType" "tuple" = some (isTup .none) ∧ kitB "bool" "tuple" = some (isTup (.bool true)) ∧ kitB "int" "tuple" = some (isTup (.int 0)) ∧ kitB "str" "tuple" = some (isTup (.str (Str.ofString ""))) ∧ kitB "list" "tuple" = some (isTup (.list [])) ∧ kitB "tuple" "tuple" = some (isTup (.tuple [])) ∧ kitB "dict" "tuple" = some (isTup (.dict [])) := by decide +kernel
  obtain ⟨h1, h2, h3, h4, h5, h6, h7⟩ := h
  cases x <;> first | exact h1 | exact h2 | exact h3 | exact h4 | exact h5 | exact h6 | exact h7
theorem kit_lst (x : PyData) : kitB (tyN x) "list" = some (isLst x) := by
  have h : kitB "NoneType" "list" = some (isLst .none) ∧ kitB "bool" "list" = some (isLst (.bool true)) ∧ kitB "int" "list" = some (isLst (.int 0)) ∧ kitB "str" "list" = some (isLst (.str (Str.ofString ""))) ∧ kitB "list" "list" = some (isLst (.list [])) ∧ kitB "tuple" "list" = some (isLst (.tuple [])) ∧ kitB "dict" "list" = some (isLst (.dict [])) := by decide +kernel
  obtain ⟨h1, h2, h3, h4, h5, h6, h7⟩ := h
  cases x <;> first | exact h1 | exact h2 | exact h3 | exact h4 | exact h5 | exact h6 | exact h7
theorem kit_bl (x : PyData) : kitB (tyN x) "bool" = some (isBl x) := by
  have h : kitB "NoneType" "bool" = some (isBl .none) ∧ kitB "bool" "bool" = some (isBl (.bool true)) ∧ kitB "int" "bool" = some (isBl (.int 0)) ∧ kitB "str" "bool" = some (isBl (.str (Str.ofString ""))) ∧ kitB "list" "bool" = some (isBl (.list [])) ∧ kitB "tuple" "bool" = some (isBl (.tuple [])) ∧ kitB "dict" "bool" = some (isBl (.dict [])) := by decide +kernel
  obtain ⟨h1, h2, h3, h4, h5, h6, h7⟩ := h
  cases x <;> first | exact h1 | exact h2 | exact h3 | exact h4 | exact h5 | exact h6 | exact h7
theorem kit_int (x : PyData) : kitB (tyN x) "int" = some (isInt x) := by
  have h : kitB "NoneType" "int" = some (isInt .none) ∧ kitB "bool" "int" = some (isInt (.bool true)) ∧ kitB "int" "int" = some (isInt (.int 0)) ∧ kitB "str" "int" = some (isInt (.str (Str.ofString ""))) ∧ kitB "list" "int" = some (isInt (.list [])) ∧ kitB "tuple" "int" = some (isInt (.tuple [])) ∧ kitB "dict" "int" = some (isInt (.dict [])) := by decide +kernel
  obtain ⟨h1, h2, h3, h4, h5, h6, h7⟩ := h
  cases x <;> first | exact h1 | exact h2 | exact h3 | exact h4 | exact h5 | exact h6 | exact h7
theorem kit_str (x : PyData) : kitB (tyN x) "str" = some (isStr x) := by
  have h : kitB "NoneType" "str" = some (isStr .none) ∧ kitB "bool" "str" = some (isStr (.bool true)) ∧ kitB "int" "str" = some (isStr (.int 0)) ∧ kitB "str" "str" = some (isStr (.str (Str.ofString ""))) ∧ kitB "list" "str" = some (isStr (.list [])) ∧ kitB "tuple" "str" = some (isStr (.tuple [])) ∧ kitB "dict" "str" = some (isStr (.dict [])) := by decide +kernel
  obtain ⟨h1, h2, h3, h4, h5, h6, h7⟩ := h
  cases x <;> first | exact h1 | exact h2 | exact h3 | exact h4 | exact h5 | exact h6 | exact h7

/-! ### is None -/
theorem zt_isN {j : Nat} {p' : Pos} (w : Vw s1 r x) (ha : ZE X a s r s1) : ZT X (.Compare a [.Is] [.Constant .none j p'] pos) s (Is (isNon x) s1) := by
  refine PT.imp (pt_cmp (pc_isN ha) (by rfl)) fun σ H Q ⟨T, ρ, g, q⟩ => ?_
  exact ⟨T, ρ, g, fun v ρ' H' p vr g' => ⟨_, rfl, by
    have d := g'.see List.mem_cons_self vr w
    refine q _ s1 ρ' H' ⟨?_, rfl⟩ p g'.tdrop
    cases d <;> first | rfl | exact decide_eq_false (fun e => nomatch e)⟩⟩
theorem ze_isN {j : Nat} {p' : Pos} (w : Vw s1 r x) (ha : ZE X a s r s1) : ZE X (.Compare a [.Is] [.Constant .none j p'] pos) s (.d (.bool (isNon x))) s1 := by
  refine PE.imp (pe_cmp (pc_isN ha) (by rfl)) fun σ H Q ⟨T, ρ, g, q⟩ => ?_
  exact ⟨T, ρ, g, fun v ρ' H' p vr g' => by
    have d := g'.see List.mem_cons_self vr w
    have e : decide (v = .non) = isNon x := by cases d <;> first | rfl | exact decide_eq_false (fun e => nomatch e)
    show Q (.bl (decide (v = .non))) H'
    rw [e]
    exact q _ ρ' H' p trivial (g'.tdrop.tflat (show flat (.bl _) (.bool _) from rfl))⟩
theorem zt_notN {j : Nat} {p' : Pos} (w : Vw s1 r x) (ha : ZE X a s r s1) : ZT X (.Compare a [.IsNot] [.Constant .none j p'] pos) s (Is (!isNon x) s1) := by
  refine PT.imp (pt_cmp (pc_notN ha) (by rfl)) fun σ H Q ⟨T, ρ, g, q⟩ => ?_
  exact ⟨T, ρ, g, fun v ρ' H' p vr g' => ⟨_, rfl, by
    have d := g'.see List.mem_cons_self vr w
    refine q _ s1 ρ' H' ⟨?_, rfl⟩ p g'.tdrop
    cases d <;> first | rfl | (exact congrArg (!·) (decide_eq_false (fun e => nomatch e)))⟩⟩

/-! ### all, any -/
theorem dps_bl {K : PySem.W.Frag} {F : Hp} : ∀ {bs : List Bool} {vs : List V}, DpAll K F vs (bs.map .bool) → vs = bs.map V.bl
  | [], _, h => by cases h; rfl
  | b :: bs, _, h => by
    cases h with
    | cons h1 h2 => cases h1; rw [dps_bl h2]; rfl
theorem ze_all {bs : List Bool} (w : Vw s1 r (.list (bs.map .bool))) (ha : ZA X [a] s [r] s1) (hm : X.mg "all" = none) (hk : X.calm = true := by rfl) (c : Cl X "all" a [] pos := by exact ⟨rfl, rfl, rfl⟩) : ZE X (.Call (.Name "all" p) [a] [] pos) s (.d (.bool (bs.all id))) s1 :=
  ze_callB (cr_all hk) (by decide +kernel) ha hm c (ca1 fun u T σ ρ H Q g vr k => by
    obtain ⟨F, p, vs, e1, hs, hd, _⟩ := g.seeL List.mem_cons_self vr w
    subst e1
    have := dps_bl hd
    subst this
    exact ⟨p, bs, rfl, hs, k _ ρ H (pre_refl ρ) trivial (g.tdrop.tflat (show flat (.bl _) (.bool _) from rfl))⟩)
theorem ze_any {bs : List Bool} (w : Vw s1 r (.list (bs.map .bool))) (ha : ZA X [a] s [r] s1) (hm : X.mg "any" = none) (hk : X.calm = true := by rfl) (c : Cl X "any" a [] pos := by exact ⟨rfl, rfl, rfl⟩) : ZE X (.Call (.Name "any" p) [a] [] pos) s (.d (.bool (bs.any id))) s1 :=
  ze_callB (cr_any hk) (by decide +kernel) ha hm c (ca1 fun u T σ ρ H Q g vr k => by
    obtain ⟨F, p, vs, e1, hs, hd, _⟩ := g.seeL List.mem_cons_self vr w
    subst e1
    have := dps_bl hd
    subst this
    exact ⟨p, bs, rfl, hs, k _ ρ H (pre_refl ρ) trivial (g.tdrop.tflat (show flat (.bl _) (.bool _) from rfl))⟩)

/-! ### x in a list, a tuple -/
def rInZ (K : PySem.W.Frag) (u : Nat) (neg : Bool) : R2 := fun x y H Q => ∃ d c ds, Dp K H x d ∧ Dp K H y c ∧ (c = .list ds ∨ c = .tuple ds) ∧ PyData.plainAll ds = true ∧ d.plain = true ∧ u + 1 + min (PyData.depthAll ds) d.depth < cLine ∧ Q (.bl (if neg then !(ds.any fun z => PyData.eqv z d) else ds.any fun z => PyData.eqv z d)) H
theorem op_inZ : OpR X (compareOp .In) (rInZ X.K X.A.units false) := by
  intro pins s σ H x y v u Q I rx ry h
  obtain ⟨d, c, ds, hd, hc, e, p1, p2, hu, q⟩ := h
  obtain ⟨as, r1⟩ := Dp.reads I d x v hd rx
  obtain ⟨bs, r2⟩ := Dp.reads I c y u hc ry
  rcases e with e | e
  · subst e
    exact SeqAt.in_list_data r2 r1 p1 p2 hu ⟨.bl _, H, I, rfl, q⟩
  · subst e
    exact SeqAt.in_tuple_data r2 r1 p1 p2 hu ⟨.bl _, H, I, rfl, q⟩
theorem op_ninZ : OpR X (compareOp .NotIn) (rInZ X.K X.A.units true) := by
  intro pins s σ H x y v u Q I rx ry h
  obtain ⟨d, c, ds, hd, hc, e, p1, p2, hu, q⟩ := h
  obtain ⟨as, r1⟩ := Dp.reads I d x v hd rx
  obtain ⟨bs, r2⟩ := Dp.reads I c y u hc ry
  rcases e with e | e
  · subst e
    exact SeqAt.notIn_list_data r2 r1 p1 p2 hu ⟨.bl _, H, I, rfl, q⟩
  · subst e
    exact SeqAt.notIn_tuple_data r2 r1 p1 p2 hu ⟨.bl _, H, I, rfl, q⟩
theorem zt_inZ {c : PyData} {rb : SD} (w1 : Vw s2 r x) (w2 : Vw s2 rb c) (hc : c = .list ds ∨ c = .tuple ds) (ha : ZE X a s r s1) (hb : ZE X b s1 rb s2) (p1 : PyData.plainAll ds = true) (p2 : x.plain = true) (hu : X.A.units + 1 + min (PyData.depthAll ds) x.depth < cLine) (hm : behindInMarks .In b = false := by rfl) :
    ZT X (.Compare a [.In] [b] pos) s (Is (ds.any fun z => PyData.eqv z x) s2) :=
  zt_cmp op_inZ ha hb (fun u w T σ ρ H Q g va vb k => ⟨x, c, ds, g.see (List.mem_cons_of_mem _ List.mem_cons_self) va w1, g.see List.mem_cons_self vb w2, hc, p1, p2, hu, k _ ρ H (pre_refl ρ) trivial (g.tdrop.tdrop.tflat (show flat (.bl _) (.bool _) from rfl))⟩) hm
theorem zt_ninZ {c : PyData} {rb : SD} (w1 : Vw s2 r x) (w2 : Vw s2 rb c) (hc : c = .list ds ∨ c = .tuple ds) (ha : ZE X a s r s1) (hb : ZE X b s1 rb s2) (p1 : PyData.plainAll ds = true) (p2 : x.plain = true) (hu : X.A.units + 1 + min (PyData.depthAll ds) x.depth < cLine) (hm : behindInMarks .NotIn b = false := by rfl) :
    ZT X (.Compare a [.NotIn] [b] pos) s (Is (!(ds.any fun z => PyData.eqv z x)) s2) :=
  zt_cmp op_ninZ ha hb (fun u w T σ ρ H Q g va vb k => ⟨x, c, ds, g.see (List.mem_cons_of_mem _ List.mem_cons_self) va w1, g.see List.mem_cons_self vb w2, hc, p1, p2, hu, k _ ρ H (pre_refl ρ) trivial (g.tdrop.tdrop.tflat (show flat (.bl _) (.bool _) from rfl))⟩) hm

/-! ### == and != of data without dicts -/
def rEqZ (K : PySem.W.Frag) (u : Nat) (neg : Bool) : R2 := fun x y H Q => ∃ d c, Dp K H x d ∧ Dp K H y c ∧ d.plain = true ∧ c.plain = true ∧ u + min d.depth c.depth < cLine ∧ Q (.bl (if neg then !PyData.eqv d c else PyData.eqv d c)) H
theorem op_eqZ : OpR X (compareOp .Eq) (rEqZ X.K X.A.units false) := by
  intro pins s σ H x y v u Q I rx ry h
  obtain ⟨d, c, hd, hc, p1, p2, hu, q⟩ := h
  obtain ⟨as, r1⟩ := Dp.reads I d x v hd rx
  obtain ⟨bs, r2⟩ := Dp.reads I c y u hc ry
  exact SeqAt.eq_plain r1 r2 p1 p2 hu ⟨.bl _, H, I, rfl, q⟩
theorem op_neZ : OpR X (compareOp .NotEq) (rEqZ X.K X.A.units true) := by
  intro pins s σ H x y v u Q I rx ry h
  obtain ⟨d, c, hd, hc, p1, p2, hu, q⟩ := h
  obtain ⟨as, r1⟩ := Dp.reads I d x v hd rx
  obtain ⟨bs, r2⟩ := Dp.reads I c y u hc ry
  exact SeqAt.ne_plain r1 r2 p1 p2 hu ⟨.bl _, H, I, rfl, q⟩
theorem bi_eqZ {neg : Bool} {ra rb : SD} (w1 : Vw s ra x) (w2 : Vw s rb y) (p1 : x.plain = true) (p2 : y.plain = true) (hu : X.A.units + min x.depth y.depth < cLine) : Bi X.K (rEqZ X.K X.A.units neg) s ra rb (.d (.bool (if neg then !PyData.eqv x y else PyData.eqv x y))) s := fun u w T σ ρ H Q g va vb k =>
  ⟨x, y, g.see (List.mem_cons_of_mem _ List.mem_cons_self) va w1, g.see List.mem_cons_self vb w2, p1, p2, hu, k _ ρ H (pre_refl ρ) trivial (g.tdrop.tdrop.tflat (show flat (.bl _) (.bool _) from rfl))⟩
theorem ze_eqP {rb : SD} (w1 : Vw s2 r x) (w2 : Vw s2 rb y) (ha : ZE X a s r s1) (hb : ZE X b s1 rb s2) (p1 : x.plain = true) (p2 : y.plain = true) (hu : X.A.units + min x.depth y.depth < cLine) : ZE X (.Compare a [.Eq] [b] pos) s (.d (.bool (PyData.eqv x y))) s2 := ze_cmp op_eqZ ha hb (bi_eqZ (neg := false) w1 w2 p1 p2 hu) (nomark _)
theorem ze_neP {rb : SD} (w1 : Vw s2 r x) (w2 : Vw s2 rb y) (ha : ZE X a s r s1) (hb : ZE X b s1 rb s2) (p1 : x.plain = true) (p2 : y.plain = true) (hu : X.A.units + min x.depth y.depth < cLine) : ZE X (.Compare a [.NotEq] [b] pos) s (.d (.bool (!PyData.eqv x y))) s2 := ze_cmp op_neZ ha hb (bi_eqZ (neg := true) w1 w2 p1 p2 hu) (nomark _)
theorem zt_eqP {rb : SD} (w1 : Vw s2 r x) (w2 : Vw s2 rb y) (ha : ZE X a s r s1) (hb : ZE X b s1 rb s2) (p1 : x.plain = true) (p2 : y.plain = true) (hu : X.A.units + min x.depth y.depth < cLine) : ZT X (.Compare a [.Eq] [b] pos) s (Is (PyData.eqv x y) s2) := zt_cmp op_eqZ ha hb (bi_eqZ (neg := false) w1 w2 p1 p2 hu) (nomark _)
theorem zt_neP {rb : SD} (w1 : Vw s2 r x) (w2 : Vw s2 rb y) (ha : ZE X a s r s1) (hb : ZE X b s1 rb s2) (p1 : x.plain = true) (p2 : y.plain = true) (hu : X.A.units + min x.depth y.depth < cLine) : ZT X (.Compare a [.NotEq] [b] pos) s (Is (!PyData.eqv x y) s2) := zt_cmp op_neZ ha hb (bi_eqZ (neg := true) w1 w2 p1 p2 hu) (nomark _)

theorem roomE {A : Around} (hu : A.units + 64 < cLine) (h : min x.depth y.depth ≤ 64) : A.units + min x.depth y.depth < cLine := by omega
theorem ce_int {i j : Int} {op : CmpOp} {pr : Int → Int → Bool} (h : ∀ {ta tb : TE}, PE X a ta → PE X b tb → PC X op a b (tCmp pr ta tb)) (ha : ZE X a s (.d (.int i)) s1) (hb : ZE X b s1 (.d (.int j)) s2) (hm : behindInMarks op b = false) : ZE X (.Compare a [op] [b] pos) s (.d (.bool (pr i j))) s2 := by
  refine PE.imp (pe_cmp (h ha hb) hm) fun σ H Q ⟨T, ρ, g, q⟩ => ?_
  exact ⟨T, ρ, g, fun v ρ' H' p vr g' => ⟨_, ρ', g', fun v2 ρ2 H2 p2 vr2 g2 => by
    have e1 := see_int (i := j) (v := v2) g2 List.mem_cons_self
    have e2 := see_int (i := i) (v := v) g2 (List.mem_cons_of_mem _ List.mem_cons_self)
    exact ⟨i, j, e2, e1, q _ ρ2 H2 (p.trans p2) trivial (g2.tdrop.tdrop.tflat (show flat (.bl _) (.bool _) from rfl))⟩⟩⟩
theorem ze_eqI {i j : Int} (ha : ZE X a s (.d (.int i)) s1) (hb : ZE X b s1 (.d (.int j)) s2) : ZE X (.Compare a [.Eq] [b] pos) s (.d (.bool (decide (i = j)))) s2 := ce_int (pr := fun i j => decide (i = j)) pc_eqI ha hb (nomark _)
theorem ze_neI {i j : Int} (ha : ZE X a s (.d (.int i)) s1) (hb : ZE X b s1 (.d (.int j)) s2) : ZE X (.Compare a [.NotEq] [b] pos) s (.d (.bool (!decide (i = j)))) s2 := ce_int (pr := fun i j => !decide (i = j)) pc_neI ha hb (nomark _)
theorem ct_int {i j : Int} {op : CmpOp} {pr : Int → Int → Bool} (h : ∀ {ta tb : TE}, PE X a ta → PE X b tb → PC X op a b (tCmp pr ta tb)) (ha : ZE X a s (.d (.int i)) s1) (hb : ZE X b s1 (.d (.int j)) s2) (hm : behindInMarks op b = false) : ZT X (.Compare a [op] [b] pos) s (Is (pr i j) s2) := by
  refine PT.imp (pt_cmp (h ha hb) hm) fun σ H Q ⟨T, ρ, g, q⟩ => ?_
  exact ⟨T, ρ, g, fun v ρ' H' p vr g' => ⟨_, ρ', g', fun v2 ρ2 H2 p2 vr2 g2 => by
    have e1 := see_int (i := j) (v := v2) g2 List.mem_cons_self
    have e2 := see_int (i := i) (v := v) g2 (List.mem_cons_of_mem _ List.mem_cons_self)
    exact ⟨i, j, e2, e1, _, rfl, q _ s2 ρ2 H2 ⟨rfl, rfl⟩ (p.trans p2) g2.tdrop.tdrop⟩⟩⟩
theorem zt_eqI {i j : Int} (ha : ZE X a s (.d (.int i)) s1) (hb : ZE X b s1 (.d (.int j)) s2) : ZT X (.Compare a [.Eq] [b] pos) s (Is (decide (i = j)) s2) := ct_int (pr := fun i j => decide (i = j)) pc_eqI ha hb (nomark _)
theorem zt_neI {i j : Int} (ha : ZE X a s (.d (.int i)) s1) (hb : ZE X b s1 (.d (.int j)) s2) : ZT X (.Compare a [.NotEq] [b] pos) s (Is (!decide (i = j)) s2) := ct_int (pr := fun i j => !decide (i = j)) pc_neI ha hb (nomark _)

/-! ### sorted -/
def srt (ds : List PyData) : List PyData := ds.mergeSort (PySem.W.dataLe false id)
def rSrt (K : PySem.W.Frag) (u : Nat) : List V → Hp → VK → Prop := fun vs H Q => ∃ a F xs ds, vs = [V.ref a] ∧ SqL K H a xs ∧ Ext F H ∧ DpAll K F xs ds ∧ PySem.W.AllAlike ds ∧ SrtK ds ∧ (∀ d ∈ ds, u + 2 + d.depth < cLine) ∧
  ∀ p ys, H p = none → DpAll K F ys (srt ds) → Q (.ref p) (upd H p (.lst ys))
theorem dps_zip {K : PySem.W.Frag} {F : Hp} : ∀ {xs : List V} {ds : List PyData}, DpAll K F xs ds → ∀ z ∈ xs.zip ds, Dp K F z.1 z.2
  | _, _, .nil, z, h => by cases h
  | _, _, .cons h1 h2, z, h => by
    rcases List.mem_cons.mp h with e | h
    · subst e; exact h1
    · exact dps_zip h2 z h
theorem dps_of_zip {K : PySem.W.Frag} {F : Hp} : ∀ {zs : List (V × PyData)}, (∀ z ∈ zs, Dp K F z.1 z.2) → DpAll K F (zs.map (·.1)) (zs.map (·.2))
  | [], _ => .nil
  | z :: zs, h => .cons (h z List.mem_cons_self) (dps_of_zip fun y hy => h y (List.mem_cons_of_mem _ hy))
theorem vals_zip : ∀ {xs : List V} {us : List Value} {ds : List PyData}, xs.length = ds.length → Vals xs us → PySem.W.EachIs (fun u (z : V × PyData) => RelV z.1 u) us (xs.zip ds)
  | _, _, [], h, .nil => .nil
  | _, _, _ :: _, h, .nil => by cases h
  | _, _, [], h, .cons _ _ => by cases h
  | _, _, d :: ds, h, .cons r t => .cons r (vals_zip (Nat.succ.inj h) t)
theorem zip_vals : ∀ {us : List Value} {zs : List (V × PyData)}, PySem.W.EachIs (fun u (z : V × PyData) => RelV z.1 u) us zs → Vals (zs.map (·.1)) us
  | _, _, .nil => .nil
  | _, _, .cons r t => .cons r (zip_vals t)
theorem snd_zip {α β : Type} : ∀ {xs : List α} {ys : List β}, xs.length = ys.length → (xs.zip ys).map (·.2) = ys
  | [], [], _ => rfl
  | _ :: _, [], h => by cases h
  | [], _ :: _, h => by cases h
  | x :: xs, y :: ys, h => by
    rw [List.zip_cons_cons, List.map_cons, snd_zip (Nat.succ.inj h)]
theorem each_imp {α β : Type} {R R' : α → β → Prop} : ∀ {as : List α} {bs : List β}, PySem.W.EachIs R as bs → (∀ a b, b ∈ bs → R a b → R' a b) → PySem.W.EachIs R' as bs
  | _, _, .nil, _ => .nil
  | _, _, .cons h t, k => .cons (k _ _ List.mem_cons_self h) (each_imp t fun a b hb => k a b (List.mem_cons_of_mem _ hb))
theorem cr_srt : CallR X (.builtin "sorted") (rSrt X.K X.A.units) := by
  intro pins s σ H vs us Q I r h
  obtain ⟨a, F, xs, ds, rfl, hs, hF, hd, al, so, hu, q⟩ := h
  obtain ⟨its, rv, hl, hz⟩ := I.list hs
  rw [Vals.ref1 r]
  have hlen := dpsLen hd
  have e := vals_zip (ds := ds) hlen rv
  have hsnd : (xs.zip ds).map (fun z => z.2) = ds := snd_zip hlen
  have er : PySem.W.EachIs (fun u (z : V × PyData) => ∃ as, Reads s.heap u z.2 as) its (xs.zip ds) := each_imp e fun u z hm hr => Dp.reads I z.2 z.1 u (dpUp hF _ _ (dps_zip hd z hm)) hr
  refine sortedX (R := fun u (z : V × PyData) => RelV z.1 u) (enc := fun z : V × PyData => z.2) hl.isList e er (by rw [hsnd]; exact al) (by rw [hsnd]; exact so) ?_ (fun z hm => ?_) fun out ho eo => ?_
  · have h1 := congrArg List.length hsnd
    rw [List.length_map] at h1
    omega
  · exact hu _ (by rw [← hsnd]; exact List.mem_map.mpr ⟨z, hm, rfl⟩)
  · obtain ⟨ep, he'⟩ := PyProof.Rows.sortedAll_at s.heap its out.toArray
    have hl2 : (((xs.zip ds).mergeSort (PySem.W.dataLe false fun z => z.2)).map (·.1)).length ≤ sizeLine := by
      have h1 := congrArg List.length hsnd
      rw [List.length_map] at h1
      rw [List.length_map, List.length_mergeSort]
      omega
    refine ⟨.ref _, upd H (s.heap.objs.size + 1) (.lst (((xs.zip ds).mergeSort (PySem.W.dataLe false fun z => z.2)).map (·.1))), I.laid (t' := s.toks) (fun _ _ => PyProof.Rows.sortedAll_old) (Nat.le_succ _) ⟨hl2, out, ep, zip_vals eo, he'⟩, rfl, q _ _ (I.hok.fresh (Nat.le_succ _)) ?_⟩
    have h2 : srt ds = ((xs.zip ds).mergeSort (PySem.W.dataLe false fun z => z.2)).map (·.2) := by
      have h3 := List.map_mergeSort (r := PySem.W.dataLe false fun z : V × PyData => z.2) (s := PySem.W.dataLe false id) (f := fun z : V × PyData => z.2) (l := xs.zip ds) (fun _ _ _ _ => rfl)
      rw [hsnd] at h3
      exact h3.symm
    rw [h2]
    exact dps_of_zip fun z hm => dps_zip hd z ((List.mergeSort_perm _ _).mem_iff.mp hm)
theorem ze_sorted (w : Vw s1 r (.list ds)) (ha : ZA X [a] s [r] s1) (al : PySem.W.AllAlike ds) (so : SrtK ds) (hu : ∀ d ∈ ds, X.A.units + 2 + d.depth < cLine) (hm : X.mg "sorted" = none) (c : Cl X "sorted" a [] pos := by exact ⟨rfl, rfl, rfl⟩) : ZE X (.Call (.Name "sorted" p) [a] [] pos) s (.d (.list (srt ds))) s1 :=
  ze_callB cr_srt (by decide +kernel) ha hm c (ca1 fun u T σ ρ H Q g vr k => by
    obtain ⟨F, p, vs, e1, hs, hd, f⟩ := g.seeL List.mem_cons_self vr w
    subst e1
    exact ⟨p, F, vs, ds, rfl, hs, f.ext, hd, al, so, hu, fun l ys hl hy => k _ ρ _ (pre_refl ρ) trivial (g.out1 (f.lstD hy hl))⟩)
theorem srt_perm (ds : List PyData) : (srt ds).Perm ds := List.mergeSort_perm _ _
end
end Z

namespace Z
open PySem L2 PyProof.Rows

/-! ### own things by what may be done with them -/
/-- reading item i gives z; .. gives the reference c; so many items; setting item i; taking the first -/
def IxO (O : Own) (i : Int) (z : V) : Prop := ∀ K F H v fp, O.holds K F H v fp → ∃ a xs, v = .ref a ∧ H a = some (.lst xs) ∧ atI xs i = some z
def LenO (O : Own) (n : Nat) : Prop := ∀ K F H v fp, O.holds K F H v fp → ∃ a xs, v = .ref a ∧ H a = some (.lst xs) ∧ xs.length = n
def PutO (O : Own) (i : Int) (z : V) (O' : Own) : Prop := ∀ K F H v fp, O.holds K F H v fp → ∃ a xs j, v = .ref a ∧ a ∈ fp ∧ H a = some (.lst xs) ∧ ixN xs.length i = some j ∧ O'.holds K F (upd H a (.lst (xs.set j z))) v fp
def PopO (O : Own) (z : V) (O' : Own) : Prop := ∀ K F H v fp, O.holds K F H v fp → ∃ a xs, v = .ref a ∧ a ∈ fp ∧ H a = some (.lst xs) ∧ xs[0]? = some z ∧ O'.holds K F (upd H a (.lst (xs.eraseIdx 0))) v fp
section
variable {X : Cx} {e a b c : Expr} {es : List Expr} {st : Stmt} {rest body : List Stmt} {s s' s1 s2 s3 : S} {r : SD} {rs : List SD} {pos p : Pos} {P : Po} {x y : PyData} {i j : Int} {o n : Nat} {O O' : Own}
/-- an object of the store, to be changed -/
theorem Sat.mut {K : PySem.W.Frag} {σ : L2.St} {ρ : List V} {T : List En} {H : Hp} {v : V} (g : Sat K s σ ρ T H) (ho : s.R[o]? = some O) (hv : ρ[o]? = some v) :
    ∃ F fp, O.holds K F H v fp ∧ (∀ a ∈ fp, ∃ u, H a = some u) ∧ ∀ (Q : Own) (H' : Hp), Q.holds K F H' v fp → (∀ a u, a ∉ fp → H a = some u → H' a = some u) → (∀ a ∈ fp, ∃ u, H' a = some u) → Sat K ⟨s.e, s.R.set o Q⟩ σ ρ T H' := by
  obtain ⟨v', e2, ok, bk⟩ := g.obj ho
  have ev : v' = v := Option.some.inj (e2.symm.trans hv)
  subst ev
  obtain ⟨F, L, e1, g1⟩ := ok
  cases L with
  | nil => simp at e1
  | cons z L =>
    obtain ⟨z1, fp⟩ := z
    simp at e1
    obtain ⟨e3, e4⟩ := e1
    subst e3
    obtain ⟨u, e5, h0⟩ := g1.ent _ List.mem_cons_self
    have e5' : v' = u := Option.some.inj e5
    subst e5'
    exact ⟨F, fp, h0, fun a ha => (g1.own a (mem_fps.mpr ⟨_, List.mem_cons_self, ha⟩)).2, fun Q H' hq k t => bk _ _ ⟨F, (((IT.o Q, some v'), fp) :: L), by rw [List.map_cons, e4], g1.change hq k t⟩⟩
theorem bi_ixO {z : V} {d : PyData} (ho : s.R[o]? = some O) (h : IxO O i z) (f : flat z d) : Bi X.K (rIxL X.K) s (.r o) (.d (.int i)) (.d d) s := fun u w T σ ρ H Q g va vb k => by
  have e1 := see_int (i := i) (v := w) g List.mem_cons_self
  subst e1
  obtain ⟨F, fp, hh, _⟩ := g.mut ho va
  obtain ⟨a, xs, e1, e2, e3⟩ := h _ _ _ _ _ hh
  subst e1
  exact ⟨a, xs, i, z, rfl, rfl, .of e2, e3, k _ ρ H (pre_refl ρ) trivial (g.tdrop.tdrop.tflat f)⟩
theorem ze_ixO {z : V} {d : PyData} (ho : s2.R[o]? = some O) (h : IxO O i z) (f : flat z d) (ha : ZE X a s (.r o) s1) (hb : ZE X b s1 (.d (.int i)) s2) (hs : PlainIx b := by intro _ _; rfl) : ZE X (.Subscript a b pos) s (.d d) s2 :=
  PE.imp (pe_ix ix_list ha hb hs) (bi_run (bi_ixO ho h f))
/-- .. gives another object of the store -/
theorem ze_ixR {z : V} (ho : s2.R[o]? = some O) (h : IxO O i z) (hn : s2.R[n]? = some O') (h' : ∀ K F H v fp, O'.holds K F H v fp → v = z) (ha : ZE X a s (.r o) s1) (hb : ZE X b s1 (.d (.int i)) s2) (hs : PlainIx b := by intro _ _; rfl) : ZE X (.Subscript a b pos) s (.r n) s2 :=
  PE.imp (pe_ix ix_list ha hb hs) (bi_run fun u w T σ ρ H Q g va vb k => by
    have e1 := see_int (i := i) (v := w) g List.mem_cons_self
    subst e1
    obtain ⟨F, fp, hh, _⟩ := g.mut ho va
    obtain ⟨a, xs, e1, e2, e3⟩ := h _ _ _ _ _ hh
    subst e1
    obtain ⟨v, hv⟩ := get_of_len g.lr hn
    obtain ⟨F2, fp2, hh2, _⟩ := g.mut hn hv
    have ez := h' _ _ _ _ _ hh2
    subst ez
    exact ⟨a, xs, i, v, rfl, rfl, .of e2, e3, k _ ρ H (pre_refl ρ) hv g.tdrop.tdrop.tun⟩)
theorem ze_lenO (ho : s1.R[o]? = some O) (h : LenO O n) (ha : ZA X [a] s [.r o] s1) (hm : X.mg "len" = none) (c : Cl X "len" a [] pos := by exact ⟨rfl, rfl, rfl⟩) : ZE X (.Call (.Name "len" p) [a] [] pos) s (.d (.int (n : Nat))) s1 :=
  ze_callB call_len_seq (by decide +kernel) ha hm c (ca1 fun u T σ ρ H Q g vr k => by
    obtain ⟨F, fp, hh, _⟩ := g.mut ho vr
    obtain ⟨a, xs, e1, e2, e3⟩ := h _ _ _ _ _ hh
    subst e1 e3
    exact ⟨a, xs, rfl, .inl (.of e2), k _ ρ H (pre_refl ρ) trivial (g.tdrop.tflat (show flat (.int _) (.int _) from rfl))⟩)
/-- xs[i] = a flat value -/
theorem zss_putO {tpos : Pos} {z : V} {d : PyData} (h : PutO O i z O') (he : ZE X e s (.d d) s1) (ha : ZE X a s1 (.r o) s2) (hb : ZE X b s2 (.d (.int i)) s3) (ho : s3.R[o]? = some O) (f : ∀ {K : PySem.W.Frag} {H : Hp} {u : V}, Dp K H u d → u = z)
    (k : ZSs X rest ⟨s3.e, s3.R.set o O'⟩ P)
    (hsub : ∀ v, assign (.Subscript a b tpos) X.env v = (do
      let ov ← holding [v] (eval a X.env)
      let iv ← holding [v, ov] (eval b X.env)
      standAt tpos
      holding [v, ov, iv] (setItem ov iv v)
      release [v, ov, iv] []) := by intro _; rfl)
    (hs : swapsWithSole [.Subscript a b tpos] e pos.line X.env = pure false := by rfl) (hw : swappedStores [.Subscript a b tpos] e X.env = pure none := by rfl) (h1 : (assignEach [.Subscript a b tpos] X.env).map (·.2) = [assign (.Subscript a b tpos) X.env] := by rfl) :
    ZSs X (.Assign [.Subscript a b tpos] e pos :: rest) s P := by
  refine zss_seq (M := fun t => t = ⟨s3.e, s3.R.set o O'⟩) (PS.imp (ps_asg he (pg_sub ha hb set_list hsub) hs hw h1) fun D σ H ⟨t, T, ρ, e1, hb0, g, q⟩ => ?_) fun t e => by subst e; exact k
  subst e1
  refine ⟨T, ρ, g, fun v ρ1 H1 p1 vr1 g1 => ⟨_, ρ1, g1, fun u ρ2 H2 p2 vr2 g2 => ⟨_, ρ2, g2, fun w ρ3 H3 p3 vr3 g3 => ?_⟩⟩⟩
  have e1 := see_int (i := i) (v := w) g3 List.mem_cons_self
  subst e1
  have dv := g3.see (r := .d d) (v := v) (x := d) (List.mem_cons_of_mem _ (List.mem_cons_of_mem _ List.mem_cons_self)) trivial (.d _)
  have e2 := f dv
  subst e2
  obtain ⟨F, fp, hh, all, put⟩ := g3.mut ho (VR.mono (r := .r o) vr2 p3)
  obtain ⟨a, xs, j, e1, m, e2, e3, hq⟩ := h _ _ _ _ _ hh
  subst e1
  refine ⟨a, xs, i, j, rfl, rfl, e2, e3, q.nx _ σ ρ3 _ rfl ((List.take_prefix _ _).trans ((p1.trans p2).trans p3)) (put O' _ hq (fun b u hb hu => ?_) fun b hb => ?_).tdrop.tdrop.tdrop⟩
  · rw [upd_ne (fun z => hb (by rw [z]; exact m))]
    exact hu
  · by_cases eb : b = a
    · subst eb
      exact ⟨_, upd_same⟩
    · rw [upd_ne eb]; exact all b hb
/-- xs.pop(0) -/
theorem ze_popO {apos p2 : Pos} {z : V} {d : PyData} (ho : s2.R[o]? = some O) (h : PopO O z O') (f : flat z d) (ha : ZE X a s (.r o) s1) (he : ZA X [b] s1 [.d (.int 0)] s2) (h1 : ∀ K F H v fp, s1.R[o]? = some O → O.holds K F H v fp → ∃ a xs, v = .ref a ∧ H a = some (.lst xs)) (ho1 : s1.R[o]? = some O)
    (hne : starEach [b] X.env = (false, eval b X.env) :: starEach [] X.env := by rfl)
    (hbase : attributeBase a "pop" X.env (eval a X.env) = eval a X.env := by rfl)
    (hfew : ((backTo p2 (starEach (b :: []) X.env)).all (fun x => !x.1) && (backToKw p2 (keywordEach [] X.env)).all (fun x => x.1.isSome)
      && decide ((b :: ([] : List Expr)).length + ([] : List Keyword).length + (if ([] : List Keyword).isEmpty then 0 else 1) < 30)) = true := by rfl)
    (hline : (apos.endLine == p2.line) = true := by rfl) (hplain : (backTo p2 (starEach [] X.env)).any (·.1) = false := by rfl) :
    ZE X (.Call (.Attribute a "pop" apos) [b] [] p2) s (.d d) ⟨s2.e, s2.R.set o O'⟩ := by
  refine PE.imp (pe_bm PySem.F.plainAttrs_list PySem.F.slot_list_pop PySem.F.type_list_pop mt_popAt ha he hbase hfew hline hne hplain) fun σ H Q ⟨T, ρ, g, k⟩ => ⟨T, ρ, g, fun v ρ1 H1 p1 vr1 g1 => ?_⟩
  obtain ⟨F, fp, hh, _⟩ := g1.mut ho1 vr1
  obtain ⟨a1, xs1, e1, e2⟩ := h1 _ _ _ _ _ ho1 hh
  subst e1
  refine ⟨.inl ⟨rfl, _, .of e2⟩, _, ρ1, g1, fun vs ρ2 H2 p2 vr2 g2 => ?_⟩
  obtain ⟨v, e1, g3⟩ := vrs_one vr2 g2
  subst e1
  have e1 := see_int (i := 0) (v := v) g3 List.mem_cons_self
  subst e1
  obtain ⟨F, fp, hh, all, put⟩ := g3.mut ho (VR.mono (r := .r o) vr1 p2)
  obtain ⟨a, xs, e3, m, e4, e5, hq⟩ := h _ _ _ _ _ hh
  cases e3
  have hx : 0 < xs.length := (List.getElem?_eq_some_iff.mp e5).1
  refine ⟨_, xs, 0, 0, z, rfl, rfl, e4, by decide, by decide, by
    unfold seqIndex?
    simp
    exact fun e => by rw [e] at hx; exact Nat.lt_irrefl _ hx, e5, k z ρ2 _ (p1.trans p2) trivial ((put O' _ hq (fun b u hb hu => ?_) fun b hb => ?_).tdrop.tdrop.tflat f)⟩
  · rw [upd_ne (fun z => hb (by rw [z]; exact m))]
    exact hu
  · by_cases eb : b = a1
    · subst eb
      exact ⟨_, upd_same⟩
    · rw [upd_ne eb]; exact all b hb

/-! ### the box of a law -/
/-- a list that is known: its address, its values -/
def OA (a : Addr) (vs : List V) : Own where
  holds := fun K F H v fp => v = .ref a ∧ fp = [a] ∧ H a = some (.lst vs)
  stay := fun ⟨e1, e2, e3⟩ e k => ⟨e1, e2, k a (by rw [e2]; simp) _ e3⟩
structure Bx where
  cells : List Int
  x : Int
  y : Int
def OBox (b : Bx) : Own where
  holds := fun K F H v fp => ∃ p c, v = .ref p ∧ fp = [p, c] ∧ p ≠ c ∧ H p = some (.lst [.ref c, .int b.x, .int b.y]) ∧ H c = some (.lst (b.cells.map .int))
  stay := fun ⟨p, c, e1, e2, n, e3, e4⟩ e k => ⟨p, c, e1, e2, n, k p (by rw [e2]; simp) _ e3, k c (by rw [e2]; simp) _ e4⟩
theorem ix_box1 {b : Bx} : IxO (OBox b) 1 (.int b.x) := fun K F H v fp ⟨p, c, e1, e2, n, e3, e4⟩ => ⟨p, _, e1, e3, rfl⟩
theorem ix_box2 {b : Bx} : IxO (OBox b) 2 (.int b.y) := fun K F H v fp ⟨p, c, e1, e2, n, e3, e4⟩ => ⟨p, _, e1, e3, rfl⟩
theorem put_box1 {b : Bx} {z : Int} : PutO (OBox b) 1 (.int z) (OBox ⟨b.cells, z, b.y⟩) := fun K F H v fp ⟨p, c, e1, e2, n, e3, e4⟩ => ⟨p, _, 1, e1, by rw [e2]; simp, e3, rfl, p, c, e1, e2, n, upd_same, by rw [upd_ne n.symm]; exact e4⟩
theorem put_box2 {b : Bx} {z : Int} : PutO (OBox b) 2 (.int z) (OBox ⟨b.cells, b.x, z⟩) := fun K F H v fp ⟨p, c, e1, e2, n, e3, e4⟩ => ⟨p, _, 2, e1, by rw [e2]; simp, e3, rfl, p, c, e1, e2, n, upd_same, by rw [upd_ne n.symm]; exact e4⟩
theorem oa_is {a : Addr} {vs : List V} : ∀ K F H v fp, (OA a vs).holds K F H v fp → v = .ref a := fun K F H v fp ⟨e, _⟩ => e
theorem ix_oa {a : Addr} {vs : List V} {z : V} (h : atI vs i = some z) : IxO (OA a vs) i z := fun K F H v fp ⟨e1, e2, e3⟩ => ⟨a, vs, e1, e3, h⟩
theorem len_oa {a : Addr} {vs : List V} : LenO (OA a vs) vs.length := fun K F H v fp ⟨e1, e2, e3⟩ => ⟨a, vs, e1, e3, rfl⟩
theorem pop_oa {a : Addr} {vs : List V} {z : V} : PopO (OA a (z :: vs)) z (OA a vs) := fun K F H v fp ⟨e1, e2, e3⟩ => ⟨a, _, e1, by rw [e2]; simp, e3, rfl, e1, e2, upd_same⟩
/-- the box in two -/
theorem zss_open {b : Bx} (hb : s.R[o]? = some (OBox b)) (k : ∀ p c, ZSs X rest ⟨s.e, s.R.set o (OA p [.ref c, .int b.x, .int b.y]) ++ [OA c (b.cells.map .int)]⟩ P) : ZSs X rest s P :=
  ⟨fun pins sh σ H D I ⟨t, T, ρ, e1, hb0, g, q⟩ => by
    subst e1
    obtain ⟨v, e2, ok, bk⟩ := g.obj hb
    obtain ⟨F, L, e1, g1⟩ := ok
    cases L with
    | nil => simp at e1
    | cons z L =>
      obtain ⟨z1, fp⟩ := z
      simp at e1
      obtain ⟨e3, e4⟩ := e1
      subst e3
      obtain ⟨u, e5, p, c, h1, h2, h3, h4, h5⟩ := g1.ent _ List.mem_cons_self
      have e5' : v = u := Option.some.inj e5
      subst e5'
      subst h1
      have h2' : fp = [p, c] := h2
      subst h2'
      have nd := g1.nd
      unfold fpsOf at nd
      rw [List.flatMap_cons] at nd
      obtain ⟨n1, n2, n3⟩ := List.nodup_append.mp nd
      have own := g1.own
      unfold fpsOf at own
      rw [List.flatMap_cons] at own
      have a1 := g1.tail.oCons (v := .ref c) (P := OA c (b.cells.map .int)) (fp := [c]) ⟨rfl, rfl, h5⟩ (by simp) (fun a ha hx => n3 a (by simp at ha; simp [ha]) a hx rfl) fun a ha => own a (by simp at ha; simp [ha])
      have a2 := a1.oCons (v := .ref p) (P := OA p [.ref c, .int b.x, .int b.y]) (fp := [p]) ⟨rfl, rfl, h4⟩ (by simp) (fun a ha hx => by
        unfold fpsOf at hx
        rw [List.flatMap_cons] at hx
        rcases List.mem_append.mp hx with hx | hx
        · simp at ha hx; subst ha hx; exact h3 rfl
        · exact n3 a (by simp at ha; simp [ha]) a hx rfl) fun a ha => own a (by simp at ha; simp [ha])
      have a3 : OK X.K ((IT.o (OA p [.ref c, .int b.x, .int b.y]), some (V.ref p)) :: (((IT.o (OA c (b.cells.map .int)), some (V.ref c)) :: T) ++ (ES t.e σ ++ (RS t.R ρ).set o (IT.un, some (V.ref p))))) H := ⟨F, _, by rw [List.map_cons, List.map_cons, e4]; rfl, a2⟩
      have a4 := ZE.frz.back2 (T2 := (IT.o (OA c (b.cells.map .int)), some (V.ref c)) :: T) g hb e2 a3
      have a5 := Sat.push a4.ok a4.le a4.lr a4.al
      refine (k p c).run pins sh σ H D I ⟨_, T, ρ ++ [.ref c], rfl, by simp; omega, a5, ?_⟩
      rw [take_pre (List.prefix_append _ _) hb0]
      exact q⟩
/-- .. and in one again -/
theorem zss_close {b : Bx} {p c : Addr} {e' : List SD} {R : List Own} (hs : s = ⟨s.e, R ++ [OA c (b.cells.map .int)]⟩) (ho : R[o]? = some (OA p [.ref c, .int b.x, .int b.y])) (hb : P.b ≤ R.length) (w : wkE s.e e') (lw : low R.length e') (k : ZSs X rest ⟨e', R.set o (OBox b)⟩ P) : ZSs X rest s P :=
  ⟨fun pins sh σ H D I ⟨t, T, ρ, e1, hb0, g, q⟩ => by
    subst e1
    rw [hs] at g
    have lr := g.lr
    simp at lr
    obtain ⟨ρ0, v0, hρ⟩ : ∃ ρ0 v0, ρ = ρ0 ++ [v0] := ⟨ρ.take R.length, ρ[R.length]'(by omega), by
      conv => lhs; rw [← List.take_append_drop R.length ρ]
      congr 1
      rw [List.drop_eq_getElem_cons (by omega), List.drop_eq_nil_of_le (by omega)]⟩
    subst hρ
    have lr0 : R.length = ρ0.length := by simpa using lr
    have q1 : RS (R ++ [OA c (b.cells.map .int)]) (ρ0 ++ [v0]) = RS R ρ0 ++ [(IT.o (OA c (b.cells.map .int)), some v0)] := by
      unfold RS
      rw [List.zipWith_append lr0]
      rfl
    have ok := g.ok
    rw [show (⟨t.e, R ++ [OA c (b.cells.map .int)]⟩ : S).R = R ++ [OA c (b.cells.map .int)] from rfl, q1] at ok
    have ok1 : OK X.K (ES t.e σ ++ (((IT.o (OA c (b.cells.map .int)), some v0) :: T) ++ RS R ρ0)) H := by
      refine ok.perm ?_
      show (T ++ (ES t.e σ ++ (RS R ρ0 ++ [(IT.o (OA c (b.cells.map .int)), some v0)]))).Perm (ES t.e σ ++ ([(IT.o (OA c (b.cells.map .int)), some v0)] ++ T ++ RS R ρ0))
      simp only [List.append_assoc]
      refine (cas _ _ _).trans (List.Perm.append_left _ ?_)
      refine List.Perm.trans ?_ List.perm_append_comm
      rw [List.append_assoc]
    have g0 : Sat X.K ⟨e', R⟩ σ ρ0 ((IT.o (OA c (b.cells.map .int)), some v0) :: T) H := by
      refine ⟨(wkE_len w).trans g.le, lr0, fun i j he => ?_, ?_⟩
      · obtain ⟨a, ha, hor⟩ := wkE_get w he
        rcases hor with e | e
        · subst e
          obtain ⟨v, h1, h2⟩ := g.al i j ha
          exact ⟨v, h1, by rw [List.getElem?_append_left (by rw [← lr0]; exact low_get lw he)] at h2; exact h2⟩
        · cases e
      · refine (ok_es (l := ((IT.o (OA c (b.cells.map .int)), some v0) :: T) ++ RS R ρ0) w ok1).perm ?_
        exact cas _ _ _
    obtain ⟨v, e2, ok2, bk⟩ := g0.obj ho
    obtain ⟨F, L, e1, g1⟩ := ok2
    match L, e1, g1 with
    | (z1, fp) :: (z2, fp2) :: L, e1, g1 =>
      simp at e1
      obtain ⟨e3, e5, e4⟩ := e1
      subst e3 e5
      obtain ⟨u, e6, h1, h2, h3⟩ := g1.ent _ List.mem_cons_self
      obtain ⟨u2, e7, k1, k2, k3⟩ := g1.ent _ (List.mem_cons_of_mem _ List.mem_cons_self)
      have e6' : v = u := Option.some.inj e6
      subst e6'
      have e7' : v0 = u2 := Option.some.inj e7
      subst e7'
      have h2' : fp = [p] := h2
      have k2' : fp2 = [c] := k2
      subst h2' k2'
      have nd := g1.nd
      unfold fpsOf at nd
      rw [List.flatMap_cons, List.flatMap_cons] at nd
      have own := g1.own
      unfold fpsOf at own
      rw [List.flatMap_cons, List.flatMap_cons] at own
      obtain ⟨n1, n2, n3⟩ := List.nodup_append.mp nd
      obtain ⟨m1, m2, m3⟩ := List.nodup_append.mp n2
      have pc : p ≠ c := fun e => n3 p (by simp) c (by simp) e
      have a1 := g1.tail.tail.oCons (v := v) (P := OBox b) (fp := [p, c]) ⟨p, c, h1, rfl, pc, h3, k3⟩ (by simp [pc]) (fun a ha hx => by
        simp at ha
        rcases ha with rfl | rfl
        · exact n3 a (by simp) a (List.mem_append_right _ hx) rfl
        · exact m3 a (by simp) a hx rfl) fun a ha => own a (by
        simp at ha
        rcases ha with rfl | rfl <;> simp)
      have a2 : OK X.K ((IT.o (OBox b), some v) :: (T ++ (ES e' σ ++ (RS R ρ0).set o (IT.un, some v)))) H := ⟨F, _, by rw [List.map_cons, e4], a1⟩
      have a3 := ZE.frz.back2 (T2 := T) g0 ho e2 a2
      refine k.run pins sh σ H D I ⟨_, T, ρ0, rfl, by omega, a3, ?_⟩
      rw [take_pre (List.prefix_append ρ0 [v0]) (by omega)] at q
      exact q⟩
end
end Z

namespace Z
open PySem L2 PyProof.Rows
theorem obox_inj (K : PySem.W.Frag) {b b' : Bx} (h : OBox b = OBox b') : b = b' := by
  have h1 : (OBox b).holds K (fun _ => none) (fun a => if a = 0 then some (.lst [.ref 1, .int b.x, .int b.y]) else some (.lst (b.cells.map .int))) (.ref 0) [0, 1] := ⟨0, 1, rfl, rfl, by decide, rfl, rfl⟩
  rw [h] at h1
  obtain ⟨p, c, e1, e2, n, e3, e4⟩ := h1
  cases e1
  cases e2
  simp at e3 e4
  obtain ⟨e3, e5⟩ := e3
  have e6 : b.cells = b'.cells := by
    exact (List.map_inj_right (fun x y e => by cases e; rfl)).mp e4
  obtain ⟨x, y, z⟩ := b
  obtain ⟨x', y', z'⟩ := b'
  simp at e3 e5 e6
  rw [e3, e5, e6]
theorem flI (i : Int) : flat (.int i) (.int i) := rfl
theorem lt_of {n m : Nat} (h : Nat.ble (n + 1) m = true) : n < m := Nat.le_of_ble_eq_true h
def finB (cells : List Int) (x y : Int) : Int × Bx :=
  let first := (y * 48271 + 17) % 2147483629
  let second := (first * 69621 + 5) % 2147483587
  let z := (second * 40692 + 3) % 2147483563
  (first * 4611686014132420609 + second * 2147483647 + z, ⟨cells, x, z⟩)
def cellB (c : Int) : Int := if decide (0 ≤ c) = true then 2 * c else -2 * c - 1
def loadB (b : Bx) : Int × Bx := match b.cells with
  | c :: r => if decide (1000000000000000000 ≤ cellB c) = true then (cellB c, ⟨r, b.x, b.y⟩) else finB r b.x ((b.y * 69621 + cellB c * 48271 + 11) % 2147483647)
  | [] => finB [] b.x b.y
def drawB (b : Bx) (m : Int) : Int × Bx :=
  let b' : Bx := if b.x < m then ⟨(loadB b).2.cells, (loadB b).1, (loadB b).2.y⟩ else b
  (b'.x % m, ⟨b'.cells, b'.x / m, b'.y⟩)
structure BOK (b : Bx) : Prop where
  x : 0 ≤ b.x
  y : 0 ≤ b.y ∧ b.y < 2 ^ 31
  l : b.cells.length ≤ 63
theorem cell_pos (c : Int) : 0 ≤ cellB c := by unfold cellB; split <;> simp_all <;> omega
theorem fin_ok {cells : List Int} {x y : Int} (hx : 0 ≤ x) (hy : 0 ≤ y) (hl : cells.length ≤ 63) : 0 ≤ (finB cells x y).1 ∧ BOK (finB cells x y).2 := by
  unfold finB
  dsimp only
  generalize h1 : (y * 48271 + 17) % 2147483629 = f
  generalize h2 : (f * 69621 + 5) % 2147483587 = g
  generalize h3 : (g * 40692 + 3) % 2147483563 = z
  have z1 : 0 ≤ z := by omega
  have z2 : z < 2 ^ 31 := by omega
  exact ⟨by omega, hx, ⟨z1, z2⟩, hl⟩
theorem load_ok {b : Bx} (h : BOK b) : 0 ≤ (loadB b).1 ∧ BOK (loadB b).2 := by
  obtain ⟨hx, ⟨y1, y2⟩, hl⟩ := h
  unfold loadB
  cases hc : b.cells with
  | nil => exact fin_ok hx y1 (by simp)
  | cons c r =>
    rw [hc] at hl
    simp at hl
    have hp := cell_pos c
    dsimp only
    split
    · exact ⟨hp, hx, ⟨y1, y2⟩, by show r.length ≤ 63; omega⟩
    · exact fin_ok hx (by omega) (by omega)
theorem draw_ok {b : Bx} {m : Int} (h : BOK b) (hm : 0 < m) : (0 ≤ (drawB b m).1 ∧ (drawB b m).1 < m) ∧ BOK (drawB b m).2 := by
  unfold drawB
  dsimp only
  refine ⟨⟨Int.emod_nonneg _ (by omega), Int.emod_lt_of_pos _ hm⟩, ?_⟩
  split
  · obtain ⟨h1, h2⟩ := load_ok h
    exact ⟨Int.ediv_nonneg h1 (by omega), h2.y, h2.l⟩
  · exact ⟨Int.ediv_nonneg h.x (by omega), h.y, h.l⟩
def aBx : Bx → List IT := fun b => [.o (OBox b)]
def aDr : Bx × Int → List IT := fun z => [.o (OBox z.1), .d (.int z.2)]
def okDr : Bx × Int → Prop := fun z => BOK z.1 ∧ CDivW 0 z.2
abbrev rLoad : Bx → IT := fun b => .d (.int (loadB b).1)
abbrev oLoad : Bx → List Own := fun b => [OBox (loadB b).2]
abbrev rDraw : Bx × Int → IT := fun z => .d (.int (drawB z.1 z.2).1)
abbrev oDraw : Bx × Int → List Own := fun z => [OBox (drawB z.1 z.2).2]
def box0 (ns : List Int) : Bx := ⟨ns, 0, 4711 + (ns.length : Nat)⟩
theorem box0_ok {ns : List Int} (h : ns.length ≤ 63) : BOK (box0 ns) := ⟨Int.le_refl _, ⟨by show (0 : Int) ≤ 4711 + _; omega, by show (4711 : Int) + (ns.length : Nat) < 2 ^ 31; omega⟩, h⟩
end Z

namespace Z
open PySem L2 PyProof.Rows
section
variable {X : Cx} {e a b c : Expr} {es : List Expr} {s s1 s2 s3 : S} {r : SD} {rs : List SD} {pos p : Pos} {x : Str} {k j n : Nat} {pre : Pre} {rel : Rel} {ds as bs : List PyData} {zd : PyData} {O : Own}
/-- a call, of data alone, whose answer is a thing of its own -/
theorem ze_callR (c : Cal X.prog X.w X.K X.mg X.base k x pre rel) (ha : ZA X (e :: es) s (ds.map .d) s1) (hp : pre (ds.map .d)) (hq : ∀ z Os, rel (ds.map .d) z Os → z = .o O) (hr : Room j X.A) (hk : k ≤ j := by omega) (h : Cl X x e es pos := by exact ⟨rfl, rfl, rfl⟩)
    (hdb : (x == ("__debug__" : Str)) = false := by decide) : ZE X (.Call (.Name x p) (e :: es) [] pos) s (.r s1.R.length) ⟨s1.e, s1.R ++ [O]⟩ := by
  refine PE.imp (tcall c hr hk h ha hdb) fun σ H Q ⟨T, ρ, g, q⟩ => ⟨T, ρ, g, fun vs ρ' H' p vr g' => ?_⟩
  show spZ X.K pre rel (vs ++ []) H' Q E0
  rw [List.append_nil]
  have hl : (ds.map IT.d).length = vs.length := by have := vr.1; simpa using this
  refine ⟨ds.map .d, T ++ (ES s1.e σ ++ RS s1.R ρ'), hp, hl, ?_, fun z Os v H2 hz ok => ?_⟩
  · have k := g'.ok
    rw [its_ie, List.append_assoc] at k
    exact k
  · rw [hq z Os hz] at ok
    refine q v (ρ' ++ [v]) H2 (p.trans (List.prefix_append _ _)) g'.newVR (Sat.tun (Sat.push ?_ g'.le g'.lr g'.al))
    exact ((OK.perm (List.perm_append_comm) (show OK X.K (([(IT.o O, some v)] ++ ie (back (ds.map IT.d) Os) vs) ++ (T ++ (ES s1.e σ ++ RS s1.R ρ'))) H2 from by rw [List.append_assoc]; exact ok)).perm (by
      refine (List.perm_append_comm).trans ?_
      rw [List.append_assoc]
      exact cas _ _ _)).right
theorem ze_callSR {A : Type} {args : A → List IT} {ask : A → Prop} {res : A → IT} {outs : A → List Own} (y : A) (c : Cal X.prog X.w X.K X.mg X.base k x (preOf args ask) (relOf args ask res outs)) (ha : ZA X (e :: es) s rs s1) (hy : ask y) (hz : res y = .o O) (hr : Room j X.A) (hk : k ≤ j := by omega)
    (h1 : args y = (dsOf (args y)).map .d := by rfl) (h2 : rs = (dsOf (args y)).map .d := by rfl) (h : Cl X x e es pos := by exact ⟨rfl, rfl, rfl⟩) (hdb : (x == ("__debug__" : Str)) = false := by decide) : ZE X (.Call (.Name x p) (e :: es) [] pos) s (.r s1.R.length) ⟨s1.e, s1.R ++ [O]⟩ := by
  subst h2
  exact ze_callR (ds := dsOf (args y)) c ha ⟨y, hy, h1.symm⟩ (fun z Os hq => by rw [(hq y hy h1.symm).1, hz]) hr hk h hdb
/-- list(xs), of its own -/
theorem ze_listO (w : Vw s1 r (.list ds)) (ha : ZA X [a] s [r] s1) (hm : X.mg "list" = none) (c : Cl X "list" a [] pos := by exact ⟨rfl, rfl, rfl⟩) : ZE X (.Call (.Name "list" p) [a] [] pos) s (.r s1.R.length) ⟨s1.e, s1.R ++ [OL ds]⟩ :=
  ze_callT call_list_of (by decide +kernel) ha hm c (ca1 fun u T σ ρ H Q g vr k => by
    obtain ⟨F, p, vs, e1, hs, hd, f⟩ := g.seeL List.mem_cons_self vr w
    subst e1
    exact ⟨p, vs, rfl, .inl hs, fun l hl => k _ (ρ ++ [.ref l]) _ (List.prefix_append _ _) g.newVR (Sat.tun (g.push1 (f.lstO hd hl)))⟩)
theorem ze_listOT (w : Vw s1 r (.tuple ds)) (ha : ZA X [a] s [r] s1) (hm : X.mg "list" = none) (c : Cl X "list" a [] pos := by exact ⟨rfl, rfl, rfl⟩) : ZE X (.Call (.Name "list" p) [a] [] pos) s (.r s1.R.length) ⟨s1.e, s1.R ++ [OL ds]⟩ :=
  ze_callT call_list_of (by decide +kernel) ha hm c (ca1 fun u T σ ρ H Q g vr k => by
    obtain ⟨F, p, vs, e1, hs, hd, f⟩ := g.seeT List.mem_cons_self w
    subst e1
    exact ⟨p, vs, rfl, .inr hs, fun l hl => k _ (ρ ++ [.ref l]) _ (List.prefix_append _ _) g.newVR (Sat.tun (g.push1 (f.lstO hd hl)))⟩)
theorem dps_ints {K : PySem.W.Frag} {F : Hp} : ∀ {bs : List Int} {vs : List V}, DpAll K F vs (bs.map .int) → vs = bs.map V.int
  | [], _, h => by cases h; rfl
  | b :: bs, _, h => by
    cases h with
    | cons h1 h2 => cases h1; rw [dps_ints h2]; rfl
/-- [cells, x, y]: the box -/
theorem ze_boxD {ns : List Int} {i j : Int} {o : Nat} (h : ZA X es s [.r o, .d (.int i), .d (.int j)] s1) (ho : s1.R[o]? = some (OL (ns.map .int))) : ZE X (.List es pos) s (.r s1.R.length) ⟨s1.e, s1.R.set o gone ++ [OBox ⟨ns, i, j⟩]⟩ := by
  refine PE.imp (pe_lst h) fun σ H Q ⟨T, ρ, g, q⟩ => ⟨T, ρ, g, fun vs ρ1 H1 p1 vrs g1 => ?_⟩
  obtain ⟨h1, h2⟩ := vrs
  match vs, h1 with
  | [v0, v1, v2], _ =>
    have vr0 : ρ1[o]? = some v0 := h2 0 _ _ rfl rfl
    have e1 := see_int (i := i) (v := v1) g1 (List.mem_cons_of_mem _ List.mem_cons_self)
    have e2 := see_int (i := j) (v := v2) g1 (List.mem_cons_of_mem _ (List.mem_cons_of_mem _ List.mem_cons_self))
    subst e1 e2
    refine ⟨by show 3 ≤ sizeLine; decide, fun l hl => ?_⟩
    have g2 : Sat X.K s1 σ ρ1 T H1 := g1.tdrop.tdrop.tdrop
    obtain ⟨v', e2, ok, bk⟩ := g2.obj ho
    have ev : v' = v0 := Option.some.inj (e2.symm.trans vr0)
    subst ev
    obtain ⟨F, L, e1, f1⟩ := ok
    cases L with
    | nil => simp at e1
    | cons z L =>
      obtain ⟨z1, fp⟩ := z
      simp at e1
      obtain ⟨e3, e4⟩ := e1
      subst e3
      obtain ⟨u, e5, c, ws, k1, k2, k3, k4⟩ := f1.ent _ List.mem_cons_self
      have e5' : v' = u := Option.some.inj e5
      subst e5' k1
      have k2' : fp = [c] := k2
      subst k2'
      have ew := dps_ints k4
      subst ew
      have nlc : l ≠ c := fun e => by rw [e, k3] at hl; cases hl
      have fr := f1.fresh (o := .lst [.ref c, .int i, .int j]) hl
      have nd := f1.nd
      unfold fpsOf at nd
      rw [List.flatMap_cons] at nd
      obtain ⟨n1, n2, n3⟩ := List.nodup_append.mp nd
      have own := f1.own
      have nl : ∀ a ∈ fpsOf L, a ≠ l := fun a ha e => by
        obtain ⟨_, o, ho⟩ := own a (by unfold fpsOf; rw [List.flatMap_cons]; exact List.mem_append_right _ ha)
        rw [e, hl] at ho
        cases ho
      have a1 := fr.tail.oCons (v := .ref l) (P := OBox ⟨ns, i, j⟩) (fp := [l, c]) ⟨l, c, rfl, rfl, nlc, upd_same, by rw [upd_ne nlc.symm]; exact k3⟩ (by simp [nlc]) (fun a ha hx => by
        simp at ha
        rcases ha with rfl | rfl
        · exact nl a hx rfl
        · exact n3 a (by simp) a hx rfl) fun a ha => by
        simp at ha
        rcases ha with rfl | rfl
        · exact ⟨ext_none f1.ext hl, _, upd_same⟩
        · exact fr.own a (by unfold fpsOf; rw [List.flatMap_cons]; simp)
      have a2 : OK X.K ((IT.o (OBox ⟨ns, i, j⟩), some (V.ref l)) :: (T ++ (ES s1.e σ ++ (RS s1.R ρ1).set o (IT.un, some (V.ref c))))) (upd H1 l (.lst [.ref c, .int i, .int j])) := ⟨F, _, by rw [List.map_cons, e4], a1⟩
      obtain ⟨F3, L3, e6, f3⟩ := a2
      have a3 : OK X.K ((IT.o gone, some (V.ref c)) :: (((IT.o (OBox ⟨ns, i, j⟩), some (V.ref l)) :: T) ++ (ES s1.e σ ++ (RS s1.R ρ1).set o (IT.un, some (V.ref c))))) (upd H1 l (.lst [.ref c, .int i, .int j])) :=
        ⟨F3, (((IT.o gone, some (V.ref c)), []) :: L3), by rw [List.map_cons, e6]; rfl, f3.oCons (v := .ref c) (P := gone) (fp := []) rfl List.nodup_nil (fun a ha => by cases ha) (fun a ha => by cases ha)⟩
      have a4 := ZE.frz.back2 (T2 := (IT.o (OBox ⟨ns, i, j⟩), some (V.ref l)) :: T) g2 ho vr0 a3
      refine q _ (ρ1 ++ [.ref l]) _ (p1.trans (List.prefix_append _ _)) ?_ (Sat.tun (Sat.push a4.ok a4.le a4.lr a4.al))
      show (ρ1 ++ [V.ref l])[s1.R.length]? = _
      rw [g1.lr, List.getElem?_append_right (Nat.le_refl _), Nat.sub_self]
      rfl
end
theorem cut63 {ds : List PyData} (h : ds.length ≤ 63) : cut ds none (some 63) = ds := by
  unfold cut
  rw [show HT.sIx ds.length ds.length (some 63) = min 63 ds.length from HT.sIx_nat ds.length ds.length 63, HT.sIx_none]
  rw [List.drop_zero, Nat.sub_zero, Nat.min_eq_right h, List.take_length]
end Z

namespace Z
open PySem L2 PyProof.Rows
section
variable {X : Cx} {tg iter elt : Expr} {ifs : List Expr} {s s1 : S} {ds : List PyData} {pos : Pos}
/-- a comprehension whose turns leave the objects -/
theorem ze_lcP {scope : Scope} {own : List (Str × Nat)} {vs : List Nat} (f : PyData → PyData) (p : PyData → Bool) (hi : ZI X tg iter s ds s1)
    (turn : ∀ x, x ∈ ds → ∃ t', (∀ z, ZG (bl X scope z) tg vs x ⟨wipeE s1.e vs, s1.R⟩ t') ∧ t'.R = s1.R ∧ (∀ z, ZTs (bl X scope z) ifs t' (Is (p x) t')) ∧
      (p x = true → ∀ z, ZE (bl X scope z) elt t' (.d (f x)) t')) (hsz : ds.length < sizeLine) (hN : X.N.Nodup) (ok : BlkOk X.N X.env.scope scope own) (hvs : own.map (·.2) = vs := by rfl) (hc : X.calm = true := by rfl) (hs : ∀ x, foldedSetIterable iter X.env x = pure x := by intro _; rfl) :
    ZE X (.ListComp elt [⟨tg, iter, ifs, 0⟩] scope pos) s (.d (.list ((ds.filter p).map f))) s1 := by
  refine (show (⟨s1.e, s1.R⟩ : S) = s1 from rfl) ▸ ze_lcD (R0 := s1.R) hi (fun i acc R => acc = ((ds.take i).filter p).map f ∧ R = s1.R) ⟨by simp, rfl⟩ (fun i x acc R hx ⟨h1, h2⟩ => ?_) (fun acc R ⟨h1, h2⟩ => ⟨by rw [h1, List.take_length], h2⟩) hsz hN ok hvs hc hs
  subst h1 h2
  obtain ⟨t', a1, a2, a3, a4⟩ := turn x (List.mem_of_getElem? hx)
  have tk : ds.take (i + 1) = ds.take i ++ [x] := by rw [List.take_add_one, hx]; rfl
  refine ⟨t', Is (p x) t', a1, a3, fun t2 ⟨e1, e2⟩ => ⟨?_, by rw [e2, a2]⟩, fun t2 ⟨e1, e2⟩ => ?_⟩
  · rw [tk, List.filter_append, List.map_append]
    have : List.filter p [x] = [] := by simp [← e1]
    rw [this]
    simp
  · subst e2
    refine ⟨f x, t2, a4 e1.symm, ?_, a2⟩
    rw [tk, List.filter_append, List.map_append]
    have : List.filter p [x] = [x] := by simp [← e1]
    rw [this]
    rfl
theorem ze_lcM {scope : Scope} {own : List (Str × Nat)} {vs : List Nat} (f : PyData → PyData) (hi : ZI X tg iter s ds s1)
    (turn : ∀ x, x ∈ ds → ∃ t', (∀ z, ZG (bl X scope z) tg vs x ⟨wipeE s1.e vs, s1.R⟩ t') ∧ t'.R = s1.R ∧ ∀ z, ZE (bl X scope z) elt t' (.d (f x)) t') (hsz : ds.length < sizeLine) (hN : X.N.Nodup) (ok : BlkOk X.N X.env.scope scope own) (hvs : own.map (·.2) = vs := by rfl) (hc : X.calm = true := by rfl) (hs : ∀ x, foldedSetIterable iter X.env x = pure x := by intro _; rfl) :
    ZE X (.ListComp elt [⟨tg, iter, [], 0⟩] scope pos) s (.d (.list (ds.map f))) s1 := by
  have := ze_lcP (pos := pos) f (fun _ => true) hi (fun x hx => by
    obtain ⟨t', a1, a3, a4⟩ := turn x hx
    exact ⟨t', a1, a3, fun z => zts_nil, fun _ => a4⟩) hsz hN ok hvs hc hs
  rw [List.filter_eq_self.mpr (fun _ _ => rfl)] at this
  exact this
theorem rng_in {lo : Int} {n : Nat} {x : PyData} (h : x ∈ rng lo n) : ∃ k, k < n ∧ x = .int (lo + (k : Nat)) := by
  obtain ⟨k, h1, h2⟩ := List.mem_map.mp h
  exact ⟨k, by simpa using h1, h2.symm⟩
theorem rng_in0 {n : Nat} {x : PyData} (h : x ∈ rng 0 n) : ∃ k, k < n ∧ x = .int (k : Nat) := by
  obtain ⟨k, h1, h2⟩ := rng_in h
  exact ⟨k, h1, by rw [h2, Int.zero_add]⟩
theorem rng_map {n : Nat} {lo : Int} : rng lo n = (List.range n).map fun k => .int (lo + (k : Nat)) := rfl
end

/-! ### the same -/
mutual
def same : PyData → PyData → Bool
  | .tuple xs, .tuple ys => xs.length == ys.length && sames xs ys
  | .list xs, .list ys => xs.length == ys.length && sames xs ys
  | .bool a, .bool b => a == b
  | .int a, .int b => a == b
  | .str a, .str b => a == b
  | .none, .none => true
  | _, _ => false
def sames : List PyData → List PyData → Bool
  | x :: xs, y :: ys => same x y && sames xs ys
  | _, _ => true
end
mutual
/-- no dict, no row that is too long -/
def nar : PyData → Bool
  | .tuple xs => decide (xs.length < sizeLine) && nars xs
  | .list xs => decide (xs.length < sizeLine) && nars xs
  | .dict _ => false
  | _ => true
def nars : List PyData → Bool
  | [] => true
  | x :: xs => nar x && nars xs
end
mutual
theorem same_refl : ∀ x, nar x = true → same x x = true
  | .tuple xs, h => by
    simp only [nar, Bool.and_eq_true] at h
    simp only [same, beq_self_eq_true, Bool.true_and]
    exact sames_refl xs h.2
  | .list xs, h => by
    simp only [nar, Bool.and_eq_true] at h
    simp only [same, beq_self_eq_true, Bool.true_and]
    exact sames_refl xs h.2
  | .bool _, _ => by simp [same]
  | .int _, _ => by simp [same]
  | .str _, _ => by simp [same]
  | .none, _ => by simp [same]
  | .dict _, h => by simp [nar] at h
theorem sames_refl : ∀ xs, nars xs = true → sames xs xs = true
  | [], _ => by simp [sames]
  | x :: xs, h => by
    simp only [nars, Bool.and_eq_true] at h
    simp only [sames, same_refl x h.1, sames_refl xs h.2, Bool.and_self]
end
mutual
theorem same_eq : ∀ x y, same x y = true → x = y
  | .tuple xs, .tuple ys, h => by
    simp only [same, Bool.and_eq_true, beq_iff_eq] at h
    rw [sames_eq xs ys h.1 h.2]
  | .list xs, .list ys, h => by
    simp only [same, Bool.and_eq_true, beq_iff_eq] at h
    rw [sames_eq xs ys h.1 h.2]
  | .bool _, .bool _, h => by simpa [same] using h
  | .int _, .int _, h => by simpa [same] using h
  | .str _, .str _, h => by simpa [same] using h
  | .none, .none, _ => rfl
  | .tuple _, .list _, h | .tuple _, .bool _, h | .tuple _, .int _, h | .tuple _, .str _, h | .tuple _, .none, h | .tuple _, .dict _, h
  | .list _, .tuple _, h | .list _, .bool _, h | .list _, .int _, h | .list _, .str _, h | .list _, .none, h | .list _, .dict _, h
  | .bool _, .tuple _, h | .bool _, .list _, h | .bool _, .int _, h | .bool _, .str _, h | .bool _, .none, h | .bool _, .dict _, h
  | .int _, .tuple _, h | .int _, .list _, h | .int _, .bool _, h | .int _, .str _, h | .int _, .none, h | .int _, .dict _, h
  | .str _, .tuple _, h | .str _, .list _, h | .str _, .bool _, h | .str _, .int _, h | .str _, .none, h | .str _, .dict _, h
  | .none, .tuple _, h | .none, .list _, h | .none, .bool _, h | .none, .int _, h | .none, .str _, h | .none, .dict _, h
  | .dict _, .tuple _, h | .dict _, .list _, h | .dict _, .bool _, h | .dict _, .int _, h | .dict _, .str _, h | .dict _, .none, h | .dict _, .dict _, h => by simp [same] at h
theorem sames_eq : ∀ xs ys, xs.length = ys.length → sames xs ys = true → xs = ys
  | [], [], _, _ => rfl
  | [], _ :: _, h, _ => by simp at h
  | _ :: _, [], h, _ => by simp at h
  | x :: xs, y :: ys, h, k => by
    simp only [sames, Bool.and_eq_true] at k
    rw [same_eq x y k.1, sames_eq xs ys (by simpa using h) k.2]
end
theorem same_iff {x y : PyData} (h : nar x = true) : same x y = decide (x = y) := by
  by_cases e : x = y
  · subst e
    rw [same_refl x h, decide_eq_true rfl]
  · rw [decide_eq_false e]
    cases q : same x y with
    | false => rfl
    | true => exact absurd (same_eq x y q) e
theorem nars_get : ∀ {xs : List PyData} {i : Nat} {x : PyData}, nars xs = true → xs[i]? = some x → nar x = true
  | _ :: _, 0, _, h, e => by
    simp only [nars, Bool.and_eq_true] at h
    simp at e
    subst e
    exact h.1
  | _ :: _, i + 1, _, h, e => by
    simp only [nars, Bool.and_eq_true] at h
    exact nars_get h.2 (by simpa using e)
theorem deps_get : ∀ {xs : List PyData} {i : Nat} {x : PyData}, xs[i]? = some x → x.depth ≤ PyData.depthAll xs
  | _ :: _, 0, _, e => by
    simp at e
    subst e
    simp only [PyData.depthAll]
    omega
  | _ :: xs, i + 1, _, e => by
    have := deps_get (xs := xs) (i := i) (by simpa using e)
    simp only [PyData.depthAll]
    omega
theorem sames_all : ∀ (xs ys : List PyData), xs.length = ys.length → sames xs ys = ((List.range xs.length).map fun k => same (xs.getD k .none) (ys.getD k .none)).all id
  | [], [], _ => by simp [sames]
  | [], _ :: _, h => by simp at h
  | _ :: _, [], h => by simp at h
  | x :: xs, y :: ys, h => by
    rw [List.length_cons, List.range_succ_eq_map, List.map_cons, List.all_cons, List.map_map]
    simp only [sames]
    rw [sames_all xs ys (by simpa using h)]
    rfl
def smAt (xs ys : List PyData) (x : PyData) : PyData := match x with
  | .int k => .bool (same (xs.getD k.toNat .none) (ys.getD k.toNat .none))
  | _ => .none
theorem smAt_rng {xs ys : List PyData} (h : xs.length = ys.length) : ∃ bs : List Bool, (rng 0 xs.length).map (smAt xs ys) = bs.map .bool ∧ bs.all id = sames xs ys := by
  refine ⟨(List.range xs.length).map fun k => same (xs.getD k .none) (ys.getD k .none), ?_, (sames_all xs ys h).symm⟩
  unfold rng
  rw [List.map_map, List.map_map]
  refine List.map_congr_left fun k hk => ?_
  show smAt xs ys (.int (0 + (k : Nat))) = _
  unfold smAt
  simp
def aSm : PyData × PyData → List IT := fun z => [.d z.1, .d z.2]
def okSm (n : Nat) : PyData × PyData → Prop := fun z => nar z.1 = true ∧ nar z.2 = true ∧ min z.1.depth z.2.depth ≤ n
abbrev rSm : PyData × PyData → IT := fun z => .d (.bool (same z.1 z.2))
end Z

namespace Z
open PySem L2 PyProof.Rows
section
variable {X : Cx} {e a b c tg iter elt : Expr} {es ifs : List Expr} {st : Stmt} {rest body : List Stmt} {s s' s1 s2 s3 : S} {r r1 r2 r3 : SD} {rs : List SD} {pos p : Pos} {P : Po} {ds : List PyData}
/-- name = [comprehension], the name a local: kept for good, or of its own -/
theorem zss_setLcD {scope : Scope} {own : List (Str × Nat)} {vs : List Nat} {acc0 : List PyData} {R0 : List Own} {y : Str} {py spos : Pos} (i : Nat) (hi : ZI X tg iter s ds s1) (Iv : Nat → List PyData → List Own → Prop) (h0 : Iv 0 [] s1.R)
    (turn : ∀ i x acc R, ds[i]? = some x → Iv i acc R → ∃ t' Rt, (∀ z, ZG (bl X scope z) tg vs x ⟨wipeE s1.e vs, R⟩ t') ∧ (∀ z, ZTs (bl X scope z) ifs t' Rt) ∧ (∀ t2, Rt false t2 → Iv (i + 1) acc t2.R) ∧
      ∀ t2, Rt true t2 → ∃ y t3, (∀ z, ZE (bl X scope z) elt t2 (.d y) t3) ∧ Iv (i + 1) (acc ++ [y]) t3.R)
    (done : ∀ acc R, Iv ds.length acc R → acc = acc0 ∧ R = R0) (hsz : ds.length < sizeLine) (hN : X.N.Nodup) (ok : BlkOk X.N X.env.scope scope own) (hil : i < s1.e.length) (k : ZSs X rest ⟨s1.e.set i (.d (.list acc0)), R0⟩ P) (hvs : own.map (·.2) = vs := by rfl) (hc : X.calm = true := by rfl) (hs : ∀ x, foldedSetIterable iter X.env x = pure x := by intro _; rfl)
    (hy : X.N[i]? = some y := by rfl) (hyl : X.env.scope.names.lookup y = some .local := by rfl) (hsw : swapsWith (.ListComp elt [⟨tg, iter, ifs, 0⟩] scope pos) (some (.Name y py)) spos.line X.env = pure true := by rfl) :
    ZSs X (.Assign [.Name y py] (.ListComp elt [⟨tg, iter, ifs, 0⟩] scope pos) spos :: rest) s P := by
  obtain ⟨te, ⟨_, h⟩, run⟩ := lc_run (pos := pos) hvs Iv h0 turn hsz hi hN hc ok hs
  refine zss_seq (M := fun t => t = ⟨s1.e.set i (.d (.list acc0)), R0⟩) (PS.imp (h i y py spos hy hyl hsw) fun D σ H ⟨t, T, ρ, e1, hb, g, q⟩ => ?_) fun t e => by subst e; exact k
  subst e1
  refine run T σ ρ H _ g fun acc R ρ' D' H' iv p g' => ?_
  obtain ⟨e1, e2⟩ := done acc R iv
  subst e1 e2
  obtain ⟨F, f⟩ := g'.ok.fz
  have g2 : Sat X.K ⟨s1.e, R⟩ σ ρ' ((itOf (.d (.list acc)), some (.ref D')) :: T) H' := ⟨g'.le, g'.lr, g'.al, f.freeze⟩
  exact q.nx _ (σ.set i (some (.ref D'))) ρ' H' rfl ((List.take_prefix _ _).trans p) (Sat.put (s := ⟨s1.e, R⟩) (r := .d (.list acc)) hil trivial g2)
theorem zss_setLcO {scope : Scope} {own : List (Str × Nat)} {vs : List Nat} {acc0 : List PyData} {R0 : List Own} {y : Str} {py spos : Pos} (i : Nat) (hi : ZI X tg iter s ds s1) (Iv : Nat → List PyData → List Own → Prop) (h0 : Iv 0 [] s1.R)
    (turn : ∀ i x acc R, ds[i]? = some x → Iv i acc R → ∃ t' Rt, (∀ z, ZG (bl X scope z) tg vs x ⟨wipeE s1.e vs, R⟩ t') ∧ (∀ z, ZTs (bl X scope z) ifs t' Rt) ∧ (∀ t2, Rt false t2 → Iv (i + 1) acc t2.R) ∧
      ∀ t2, Rt true t2 → ∃ y t3, (∀ z, ZE (bl X scope z) elt t2 (.d y) t3) ∧ Iv (i + 1) (acc ++ [y]) t3.R)
    (done : ∀ acc R, Iv ds.length acc R → acc = acc0 ∧ R = R0) (hsz : ds.length < sizeLine) (hN : X.N.Nodup) (ok : BlkOk X.N X.env.scope scope own) (hil : i < s1.e.length) (k : ZSs X rest ⟨s1.e.set i (.r R0.length), R0 ++ [OL acc0]⟩ P) (hvs : own.map (·.2) = vs := by rfl) (hc : X.calm = true := by rfl) (hs : ∀ x, foldedSetIterable iter X.env x = pure x := by intro _; rfl)
    (hy : X.N[i]? = some y := by rfl) (hyl : X.env.scope.names.lookup y = some .local := by rfl) (hsw : swapsWith (.ListComp elt [⟨tg, iter, ifs, 0⟩] scope pos) (some (.Name y py)) spos.line X.env = pure true := by rfl) :
    ZSs X (.Assign [.Name y py] (.ListComp elt [⟨tg, iter, ifs, 0⟩] scope pos) spos :: rest) s P := by
  obtain ⟨te, ⟨_, h⟩, run⟩ := lc_run (pos := pos) hvs Iv h0 turn hsz hi hN hc ok hs
  refine zss_seq (M := fun t => t = ⟨s1.e.set i (.r R0.length), R0 ++ [OL acc0]⟩) (PS.imp (h i y py spos hy hyl hsw) fun D σ H ⟨t, T, ρ, e1, hb, g, q⟩ => ?_) fun t e => by subst e; exact k
  subst e1
  refine run T σ ρ H _ g fun acc R ρ' D' H' iv p g' => ?_
  obtain ⟨e1, e2⟩ := done acc R iv
  subst e1 e2
  have g2 : Sat X.K ⟨s1.e, R ++ [OL acc]⟩ σ (ρ' ++ [.ref D']) T H' := Sat.push (s := ⟨s1.e, R⟩) g'.ok g'.le g'.lr g'.al
  exact q.nx _ (σ.set i (some (.ref D'))) _ H' rfl ((List.take_prefix _ _).trans (p.trans (List.prefix_append _ _))) (Sat.put (s := ⟨s1.e, R ++ [OL acc]⟩) (r := .r R.length) hil (Sat.newVR (s := ⟨s1.e, R⟩) g') g2.tun)
/-- turns that leave the objects -/
theorem zss_setLcP {scope : Scope} {own : List (Str × Nat)} {vs : List Nat} {y : Str} {py spos : Pos} (i : Nat) (f : PyData → PyData) (pr : PyData → Bool) (hi : ZI X tg iter s ds s1)
    (turn : ∀ x, x ∈ ds → ∃ t', (∀ z, ZG (bl X scope z) tg vs x ⟨wipeE s1.e vs, s1.R⟩ t') ∧ t'.R = s1.R ∧ (∀ z, ZTs (bl X scope z) ifs t' (Is (pr x) t')) ∧ (pr x = true → ∀ z, ZE (bl X scope z) elt t' (.d (f x)) t')) (hsz : ds.length < sizeLine) (hN : X.N.Nodup) (ok : BlkOk X.N X.env.scope scope own)
    (hil : i < s1.e.length) (k : ZSs X rest ⟨s1.e.set i (.d (.list ((ds.filter pr).map f))), s1.R⟩ P) (hvs : own.map (·.2) = vs := by rfl) (hc : X.calm = true := by rfl) (hs : ∀ x, foldedSetIterable iter X.env x = pure x := by intro _; rfl)
    (hy : X.N[i]? = some y := by rfl) (hyl : X.env.scope.names.lookup y = some .local := by rfl) (hsw : swapsWith (.ListComp elt [⟨tg, iter, ifs, 0⟩] scope pos) (some (.Name y py)) spos.line X.env = pure true := by rfl) :
    ZSs X (.Assign [.Name y py] (.ListComp elt [⟨tg, iter, ifs, 0⟩] scope pos) spos :: rest) s P := by
  refine zss_setLcD (R0 := s1.R) i hi (fun i acc R => acc = ((ds.take i).filter pr).map f ∧ R = s1.R) ⟨by simp, rfl⟩ (fun i x acc R hx ⟨h1, h2⟩ => ?_) (fun acc R ⟨h1, h2⟩ => ⟨by rw [h1, List.take_length], h2⟩) hsz hN ok hil k hvs hc hs hy hyl hsw
  subst h1 h2
  obtain ⟨t', a1, a2, a3, a4⟩ := turn x (List.mem_of_getElem? hx)
  have tk : ds.take (i + 1) = ds.take i ++ [x] := by rw [List.take_add_one, hx]; rfl
  refine ⟨t', Is (pr x) t', a1, a3, fun t2 ⟨e1, e2⟩ => ⟨?_, by rw [e2, a2]⟩, fun t2 ⟨e1, e2⟩ => ?_⟩
  · rw [tk, List.filter_append, List.map_append]
    have : List.filter pr [x] = [] := by simp [← e1]
    rw [this]
    simp
  · subst e2
    refine ⟨f x, t2, a4 e1.symm, ?_, a2⟩
    rw [tk, List.filter_append, List.map_append]
    have : List.filter pr [x] = [x] := by simp [← e1]
    rw [this]
    rfl
/-- a, b = x, y -/
theorem zss_par2 {x y : Str} {px py pt pt2 : Pos} {kt k2 : Nat} (i j : Nat) (ha : ZA X [a, b] s [r1, r2] s1) (hi : i < s1.e.length) (hj : j < s1.e.length) (k : ZSs X rest ⟨(s1.e.set i r1).set j r2, s1.R⟩ P) (hN : X.N.Nodup) (hij : i ≠ j := by decide) (hc : X.calm = true := by rfl) (hx : X.N[i]? = some x := by rfl) (hy : X.N[j]? = some y := by rfl)
    (hlx : X.env.scope.names.lookup x = some .local := by rfl) (hly : X.env.scope.names.lookup y = some .local := by rfl)
    (hw : swappedStores [.Tuple [.Name x px, .Name y py] kt pt] (.Tuple [a, b] k2 pt2) X.env = pure (some [x, y]) := by rfl) (hs : swapsWithSole [.Tuple [.Name x px, .Name y py] kt pt] (.Tuple [a, b] k2 pt2) pos.line X.env = pure false := by rfl) :
    ZSs X (.Assign [.Tuple [.Name x px, .Name y py] kt pt] (.Tuple [a, b] k2 pt2) pos :: rest) s P := by
  refine zss_seq (M := fun t => t = ⟨(s1.e.set i r1).set j r2, s1.R⟩) (PS.imp (ps_par hc hN hx hy hij hlx hly ha hw hs) fun D σ H ⟨t, T, ρ, e1, hb, g, q⟩ => ?_) fun t e => by subst e; exact k
  subst e1
  refine ⟨T, ρ, g, fun vs ρ' H' p vr g' => ?_⟩
  obtain ⟨v, w, e1, h1, h2⟩ := vrs2 vr
  subst e1
  have g1 : Sat X.K ⟨s1.e.set i r1, s1.R⟩ (σ.set i (some v)) ρ' ((itOf r2, some w) :: T) H' := Sat.put hi h1 g'
  have g2 : Sat X.K ⟨(s1.e.set i r1).set j r2, s1.R⟩ ((σ.set i (some v)).set j (some w)) ρ' T H' := Sat.put (s := ⟨s1.e.set i r1, s1.R⟩) (by simpa using hj) h2 g1
  exact ⟨v, w, rfl, q.nx _ _ ρ' H' rfl ((List.take_prefix _ _).trans p) g2⟩
theorem vrs3 {ρ : List V} {us : List V} (h : VRs [r1, r2, r3] ρ us) : ∃ u v w, us = [u, v, w] ∧ VR r1 ρ u ∧ VR r2 ρ v ∧ VR r3 ρ w := by
  obtain ⟨h1, h2⟩ := h
  match us, h1 with
  | [u, v, w], _ => exact ⟨u, v, w, rfl, h2 0 _ u rfl rfl, h2 1 _ v rfl rfl, h2 2 _ w rfl rfl⟩
theorem zss_par3 {x y z : Str} {px py pz pt pt2 : Pos} {kt k2 : Nat} (i j l : Nat) (ha : ZA X [a, b, c] s [r1, r2, r3] s1) (hi : i < s1.e.length) (hj : j < s1.e.length) (hl : l < s1.e.length) (k : ZSs X rest ⟨((s1.e.set i r1).set j r2).set l r3, s1.R⟩ P) (hN : X.N.Nodup) (hij : i ≠ j := by decide) (hil : i ≠ l := by decide) (hjl : j ≠ l := by decide) (hc : X.calm = true := by rfl) (hx : X.N[i]? = some x := by rfl) (hy : X.N[j]? = some y := by rfl) (hz : X.N[l]? = some z := by rfl)
    (hlx : X.env.scope.names.lookup x = some .local := by rfl) (hly : X.env.scope.names.lookup y = some .local := by rfl) (hlz : X.env.scope.names.lookup z = some .local := by rfl)
    (hw : swappedStores [.Tuple [.Name x px, .Name y py, .Name z pz] kt pt] (.Tuple [a, b, c] k2 pt2) X.env = pure (some [x, y, z]) := by rfl) (hs : swapsWithSole [.Tuple [.Name x px, .Name y py, .Name z pz] kt pt] (.Tuple [a, b, c] k2 pt2) pos.line X.env = pure false := by rfl) :
    ZSs X (.Assign [.Tuple [.Name x px, .Name y py, .Name z pz] kt pt] (.Tuple [a, b, c] k2 pt2) pos :: rest) s P := by
  refine zss_seq (M := fun t => t = ⟨((s1.e.set i r1).set j r2).set l r3, s1.R⟩) (PS.imp (ps_par3 hc hN hx hy hz hij hil hjl hlx hly hlz ha hw hs) fun D σ H ⟨t, T, ρ, e1, hb, g, q⟩ => ?_) fun t e => by subst e; exact k
  subst e1
  refine ⟨T, ρ, g, fun vs ρ' H' p vr g' => ?_⟩
  obtain ⟨u, v, w, e1, h1, h2, h3⟩ := vrs3 vr
  subst e1
  have g1 : Sat X.K ⟨s1.e.set i r1, s1.R⟩ (σ.set i (some u)) ρ' ((itOf r2, some v) :: (itOf r3, some w) :: T) H' := Sat.put hi h1 g'
  have g2 : Sat X.K ⟨(s1.e.set i r1).set j r2, s1.R⟩ ((σ.set i (some u)).set j (some v)) ρ' ((itOf r3, some w) :: T) H' := Sat.put (s := ⟨s1.e.set i r1, s1.R⟩) (by simpa using hj) h2 g1
  have g3 : Sat X.K ⟨((s1.e.set i r1).set j r2).set l r3, s1.R⟩ (((σ.set i (some u)).set j (some v)).set l (some w)) ρ' T H' := Sat.put (s := ⟨(s1.e.set i r1).set j r2, s1.R⟩) (by simpa using hl) h3 g2
  exact ⟨u, v, w, rfl, q.nx _ _ ρ' H' rfl ((List.take_prefix _ _).trans p) g3⟩
/-- a, b = a tuple; any target -/
theorem zss_asg {vs : List Nat} {x : PyData} (he : ZE X e s (.d x) s1) (hg : ZG X tg vs x s1 s2) (k : ZSs X rest s2 P) (hs : swapsWithSole [tg] e pos.line X.env = pure false := by rfl) (hw : swappedStores [tg] e X.env = pure none := by rfl) (h1 : (assignEach [tg] X.env).map (·.2) = [assign tg X.env] := by rfl) :
    ZSs X (.Assign [tg] e pos :: rest) s P :=
  zss_seq (M := fun t => t = s2) (PS.imp (ps_asg he hg hs hw h1) fun D σ H ⟨t, T, ρ, e1, hb, g, q⟩ => by
    subst e1
    exact ⟨T, ρ, g, fun v ρ' H' p vr g' => ⟨T, ρ', g', fun σ' o g2 => q.nx _ σ' ρ' H' rfl ((List.take_prefix _ _).trans p) g2⟩⟩) fun t e => by subst e; exact k
/-- x += an int, x -= an int -/
theorem zss_aug {op : Operator} {f : Int → Int → Int} {x : Str} {p' : Pos} (ho : PIp X op (ipI f)) (i : Nat) {u w : Int} (hu : s1.e[i]? = some (.d (.int u))) (hu0 : s.e[i]? = some (.d (.int u))) (h : ZE X e s (.d (.int w)) s1) (k : ZSs X rest ⟨s1.e.set i (.d (.int (f u w))), s1.R⟩ P) (hN : X.N.Nodup) (hx : X.N[i]? = some x := by rfl) (hl : Loc X.env.scope x := by first | exact .inl rfl | exact .inr rfl)
    (hf : X.fn x = true ∨ X.env.scope.names.lookup x = some .local := by first | exact .inl rfl | exact .inr rfl) : ZSs X (.AugAssign (.Name x p') op e pos :: rest) s P :=
  zss_seq (M := fun t => t = ⟨s1.e.set i (.d (.int (f u w))), s1.R⟩) (PS.imp (ps_aug hN hx hl h ho hf) fun D σ H ⟨t, T, ρ, e1, hb, g, q⟩ => by
    subst e1
    obtain ⟨v0, h0, g0⟩ := g.slot hu0
    have ev := see_int (i := u) (v := v0) g0 List.mem_cons_self
    subst ev
    refine ⟨_, h0, T, ρ, g, fun v ρ' H' p vr g' => ?_⟩
    have ew := see_int (i := w) (v := v) g' List.mem_cons_self
    subst ew
    refine ⟨u, w, rfl, rfl, q.nx _ _ ρ' H' rfl ((List.take_prefix _ _).trans p) (Sat.put (r := .d (.int (f u w))) (List.getElem?_eq_some_iff.mp hu).1 trivial (g'.tdrop.tflat (show flat (.int _) (.int _) from rfl)))⟩) fun t e => by subst e; exact k
end
end Z

namespace HT
open PySem PySem.Spec PyProof.Rows
section
variable {prog : Program} {w : World} {A : Around} {E : Value → Shared → Prop} {s : Shared}
theorem places_rev (n : Nat) : Builtin.Slice.slicePlaces ((n : Int) - 1) (-1) (-1) = n := by
  unfold Builtin.Slice.slicePlaces
  rw [if_neg (by decide)]
  by_cases h : (n : Int) - 1 > -1
  · rw [if_pos h]
    have : (((n : Int) - 1) - (-1) - 1) / (- -1) + 1 = n := by
      rw [show (- (-1 : Int)) = 1 from rfl, Int.ediv_one]
      omega
    rw [this]
    simp
  · rw [if_neg h]
    simp
    omega
theorem sliceApplied_rev {sl : Addr} {vl vu vs : Value} {n : Nat} {Q : Int × Int × Nat → Shared → Prop} (hs : s.heap.IsSliceOf sl vl vu vs) (pl : IsPart vl none) (pu : IsPart vu none) (ps : IsPart vs (some (-1)))
    (h : Q ((n : Int) - 1, -1, n) s) : wpAny (model prog w) A (Builtin.Slice.sliceApplied (.ref sl) (pure (n : Int))) Q E s := by
  obtain ⟨os, hos, hcs, hds⟩ := id hs
  unfold Builtin.Slice.sliceApplied Builtin.Slice.sliceFields
  refine wpAny_bind (wpAny_bind (wpAny_field hos hds (x := vl) rfl (wpAny_bind (wpAny_field hos hds (x := vu) rfl (wpAny_bind (wpAny_field hos hds (x := vs) rfl (wpAny_pure ?_)))))))
  refine wpAny_bind (slicePart_ ps ?_)
  show wpAny _ _ (if ((-1 : Int) == 0) = true then _ else _) _ _ s
  rw [if_neg (by decide)]
  refine wpAny_bind (slicePart_ pl (wpAny_bind (slicePart_ pu (wpAny_bind (wpAny_pure ?_)))))
  show wpAny _ _ (pure ((n : Int) - 1, (-1 : Int), Builtin.Slice.slicePlaces ((n : Int) - 1) (-1) (-1))) _ _ s
  rw [places_rev]
  exact wpAny_pure h
theorem fm_congr {α β : Type} {f g : α → Option β} : ∀ {l : List α}, (∀ x ∈ l, f x = g x) → l.filterMap f = l.filterMap g
  | [], _ => rfl
  | x :: l, h => by
    rw [List.filterMap_cons, List.filterMap_cons, h x List.mem_cons_self, fm_congr fun y hy => h y (List.mem_cons_of_mem _ hy)]
theorem pick_rev (xs : Array Value) : ((List.range xs.size).filterMap fun (m : Nat) => xs[(((xs.size : Int) - 1) + (m : Int) * (-1)).toNat]?).toArray = xs.toList.reverse.toArray := by
  congr 1
  have h1 : ∀ (l : List Value), ((List.range l.length).filterMap fun (m : Nat) => l[(((l.length : Int) - 1) + (m : Int) * (-1)).toNat]?) = l.reverse := by
    intro l
    have h2 : ∀ m ∈ List.range l.length, l[(((l.length : Int) - 1) + (m : Int) * (-1)).toNat]? = l.reverse[m]? := fun m hm => by
      have hm : m < l.length := by simpa using hm
      rw [List.getElem?_reverse hm]
      congr 1
      omega
    rw [fm_congr h2]
    have h3 : ∀ (r : List Value), (List.range r.length).filterMap (fun m => r[m]?) = r := by
      intro r
      induction r with
      | nil => rfl
      | cons a r ih =>
        rw [List.length_cons, List.range_succ_eq_map, List.filterMap_cons]
        simp only [List.getElem?_cons_zero, List.filterMap_map]
        congr 1
    have := h3 l.reverse
    rw [List.length_reverse] at this
    exact this
  have := h1 xs.toList
  simpa using this
theorem getItem_tuple_rev {t sl : Addr} {items : Array Value} {vl vu vs : Value} {Q : Value → Shared → Prop} (ht : IsTup s.heap t items) (hs : s.heap.IsSliceOf sl vl vu vs) (pl : IsPart vl none) (pu : IsPart vu none) (ps : IsPart vs (some (-1)))
    (h : Q (.ref s.heap.objs.size) { s with heap := s.heap.push { cls := .type "tuple", data := .seq items.toList.reverse.toArray } })
    (hsz : items.size ≤ sizeLine) : wpAny (model prog w) A (getItem (.ref t) (.ref sl)) Q E s := by
  have htake : sizeOk (.seq items.toList.reverse.toArray) := by
    show items.toList.reverse.toArray.size ≤ sizeLine
    rw [List.size_toArray, List.length_reverse, Array.length_toList]
    exact hsz
  obtain ⟨os, hos, hcs, hds⟩ := id hs
  have hTs : s.TypeIs (.ref sl) "slice" := ⟨os, hos, hcs⟩
  unfold getItem
  try with_reducible refine wpAny_holding ?_
  first | refine wpAny_bind (wpAny_pure ?_) | skip
  refine wpAny_bind (wpAny_sequenceKey ht.typeIs (by decide) ?_)
  refine wpAny_bind (wpAny_callSpecial?_slot (name := Str.ofString "__getitem__") ht.typeIs PyProof.Rows.slot_tuple_getitem
    (wpAny_call_entry PyProof.Rows.slot_tuple_getitem ht.typeIs entry_tuple_getitem ?_ (args_tuple_getitem _ _)))
  show wpAny _ _ (Builtin.Tuple.tupleItemsOf (.ref t) >>= _) _ _ s
  refine wpAny_bind (tupleItemsOf_ ht ?_)
  refine wpAny_bind (wpAny_typeOf hTs ?_)
  rw [if_pos (by decide)]
  refine wpAny_bind (sliceApplied_rev hs pl pu ps ?_)
  have hno : ¬ ((((items.size : Int) - 1) == 0 && (-1 : Int) == 1 && items.size == items.size) = true) := by
    intro q
    rw [Bool.and_eq_true, Bool.and_eq_true] at q
    exact absurd q.1.2 (by decide)
  show wpAny _ _ (if (((items.size : Int) - 1) == 0 && (-1 : Int) == 1 && items.size == items.size) = true then _ else _) _ _ s
  rw [if_neg hno, pick_rev]
  first
    | exact wpAny_bind (m := Builtin.Tuple.tupleExact _) (wpAny_newObj_type (wpAny_pure ⟨_, rfl, wpAny_pure h⟩) htake)
    | exact wpAny_bind (m := Builtin.Tuple.tupleExact _) (wpAny_newObj_type (wpAny_bind (wpAny_pure (wpAny_pure ⟨_, rfl, wpAny_pure h⟩))) htake)
    | exact wpAny_bind (wpAny_bind (m := Builtin.Tuple.tupleExact _) (wpAny_newObj_type (wpAny_pure (wpAny_pure ⟨_, rfl, wpAny_pure h⟩)) htake))
    | exact wpAny_bind (wpAny_bind (m := Builtin.Tuple.tupleExact _) (wpAny_newObj_type (wpAny_pure ⟨_, rfl, wpAny_pure h⟩) htake))
end
end HT
namespace Z
open PySem L2 PyProof.Rows
def tRevT (K : PySem.W.Frag) (te : TE) : TE := fun σ H Q => te σ H fun x H1 => ∃ a xs, x = .ref a ∧ SqT K H1 a xs ∧ ∀ p, H1 p = none → Q (.ref p) (upd H1 p (.tup xs.reverse))
section
variable {X : Cx} {a : Expr} {s s1 : S} {r : SD} {ds : List PyData}
theorem pe_revT {e : Expr} {te : TE} {k : Nat} {p1 p2 p3 pos : Pos} (he : PE X e te) : PE X (.Subscript e (.Slice none none (some (.UnaryOp .USub (.Constant (.int 1) k p1) p2)) p3) pos) (tRevT X.K te) := by
  refine ⟨fun pins s σ H Q I h => ?_⟩
  refine Subscript_ (thn (he.run pins s σ H _ I h) fun v s1 ⟨x, H1, I1, r1, q1⟩ => ?_)
  obtain ⟨a, xs, ex, hx, q⟩ := q1
  subst ex
  cases r1
  have hst : PO X (some (.UnaryOp .USub (.Constant (.int 1) k p1) p2)) (tPart (tUn (rU fun i => .int (-i)) (tC (.int 1)))) := po_some (pe_un un_neg pe_int)
  refine wpAny_Slice (thn (po_none.run pins s1 σ H1 (fun o H2 => o = none ∧ H2 = H1) I1 ⟨rfl, rfl⟩) fun vl s2 ⟨l, H2, I2, pl, el, e2⟩ => ?_)
  subst el e2
  refine thn (po_none.run pins s2 σ H2 (fun o H3 => o = none ∧ H3 = H2) I2 ⟨rfl, rfl⟩) fun vu s3 ⟨u, H3, I3, pu, eu, e3⟩ => ?_
  subst eu e3
  refine thn (hst.run pins s3 σ H3 (fun o H4 => o = some (-1) ∧ H4 = H3) I3 ⟨1, rfl, -1, rfl, rfl, rfl⟩) fun vs s4 ⟨o, H4, I4, ps, eo, e4⟩ => ?_
  subst eo e4
  have I5 : Inv X pins σ H4 { s4 with heap := s4.heap.push { cls := .type "slice", data := .fields #[vl, vu, vs] } } := I4.kept (t' := s4.toks) fun b ob q => Heap.get?_push_of_some _ q
  obtain ⟨its, r, ht, hz⟩ := I5.tuple hx
  have hlen := r.length
  show wpAny (model X.prog X.w) X.A (subscriptTail e (.Slice none none (some (.UnaryOp .USub (.Constant (.int 1) k p1) p2)) p3) (.ref a) (.ref s4.heap.objs.size)) (EP X pins σ Q) X.xe { s4 with heap := s4.heap.push { cls := .type "slice", data := .fields #[vl, vu, vs] } }
  refine tail_any (ops := [.ref a, .ref s4.heap.objs.size]) ht.typeIs (PyProof.Rows.slot_tuple_getitem.lookup) ?_ (by with_unfolding_all rfl)
  refine HT.getItem_tuple_rev ht (Heap.IsSliceOf.new _ vl vu vs) pl pu ps ?_ (by rw [List.size_toArray]; omega)
  refine ⟨.ref _, _, I5.laid (t' := s4.toks) (o := .tup xs.reverse) (fun b ob q => Heap.get?_push_of_some _ q) (Nat.le_refl _) ?_, rfl, q _ (I5.hok.fresh (Nat.le_refl _))⟩
  exact ⟨by rw [List.length_reverse]; exact hz, _, r.reverse, IsTup.new _ _⟩
theorem ze_revT {k : Nat} {p1 p2 p3 pos : Pos} (w : Vw s1 r (.tuple ds)) (ha : ZE X a s r s1) : ZE X (.Subscript a (.Slice none none (some (.UnaryOp .USub (.Constant (.int 1) k p1) p2)) p3) pos) s (.d (.tuple ds.reverse)) s1 :=
  PE.imp (pe_revT ha) fun σ H Q ⟨T, ρ, g, k⟩ => ⟨T, ρ, g, fun v ρ1 H1 p1 vr1 g1 => by
    obtain ⟨F, p, vs, e1, hs, hd, f⟩ := g1.seeT List.mem_cons_self w
    subst e1
    exact ⟨p, vs, rfl, hs, fun q hq => k _ ρ1 _ p1 trivial (g1.out1 (f.tup (dpsRev hd) hq))⟩⟩
theorem ze_revL {k : Nat} {p1 p2 p3 pos : Pos} (w : Vw s1 r (.list ds)) (ha : ZE X a s r s1) : ZE X (.Subscript a (.Slice none none (some (.UnaryOp .USub (.Constant (.int 1) k p1) p2)) p3) pos) s (.d (.list ds.reverse)) s1 :=
  PE.imp (pe_revL ha) fun σ H Q ⟨T, ρ, g, k⟩ => ⟨T, ρ, g, fun v ρ1 H1 p1 vr1 g1 => by
    obtain ⟨F, p, vs, e1, hs, hd, f⟩ := g1.seeL List.mem_cons_self vr1 w
    subst e1
    exact ⟨p, vs, rfl, hs, fun q hq => k _ ρ1 _ p1 trivial (g1.out1 (f.lstD (dpsRev hd) hq))⟩⟩
variable {b : Expr} {s2 : S} {i j : Int} {pos : Pos}
theorem ze_pow (hc : CPow i j) (ha : ZE X a s (.d (.int i)) s1) (hb : ZE X b s1 (.d (.int j)) s2) : ZE X (.BinOp a .Pow b pos) s (.d (.int (i ^ j.toNat))) s2 := ze_op op_pow ha hb (bi_intC hc (show flat (.int _) (.int _) from rfl))
end
end Z

namespace Z
open PySem L2 PyProof.Rows
theorem draw_ex {b : Bx} {m : Int} (h : BOK b) (hm : 0 < m) : ∃ d b', drawB b m = (d, b') ∧ 0 ≤ d ∧ d < m ∧ BOK b' :=
  let ⟨⟨h1, h2⟩, h3⟩ := draw_ok h hm
  ⟨_, _, rfl, h1, h2, h3⟩
theorem dr_ok {b : Bx} {m : Int} (h : BOK b) (hm : 0 < m) (h2 : m.natAbs < 2 ^ 200) : okDr (b, m) := ⟨h, hm, PySem.Flt.log2_lt_of (by decide) (Nat.lt_of_lt_of_le h2 (Nat.pow_le_pow_right (by decide) (by decide)))⟩
theorem roomS {A : Around} {d : PyData} (hu : A.units + 64 < cLine) (h : d.depth ≤ 60) : A.units + 2 + d.depth < cLine := by omega
section
variable {X : Cx} {x1 x2 e : Expr} {s s1 s' : S} {p pos : Pos} {o k j : Nat} {b b' : Bx} {m d : Int} {kk kk' : Bool}
theorem ze_draw (c : Cal X.prog X.w X.K X.mg X.base k "_law_draw" (preOf aDr okDr) (relOf aDr okDr rDraw oDraw)) (e : drawB b m = (d, b')) (ha : ZA X [x1, x2] s [.r o, .d (.int m)] s1) (ho : s1.R[o]? = some (OBox b)) (hb : BOK b) (hr : Room j X.A) (hm : 0 < m := by decide) (h2 : m.natAbs < 2 ^ 200 := by decide) (hk : k ≤ j := by omega)
    (h : Cl X "_law_draw" x1 [x2] pos := by exact ⟨rfl, rfl, rfl⟩) : ZE X (.Call (.Name "_law_draw" p) [x1, x2] [] pos) s (.d (.int d)) ⟨s1.e, s1.R.set o (OBox b')⟩ := by
  have := ze_callS1 (p := p) (b, m) c ha (dr_ok hb hm h2) ho rfl rfl hr hk rfl rfl h (by decide)
  rw [e] at this
  exact this
theorem zt_k (h : ZT X e s (Is kk s')) (q : kk = kk') : ZT X e s (Is kk' s') := by subst q; exact h
theorem ZE.i {i i' : Int} (h : ZE X e s (.d (.int i)) s') (q : i = i') : ZE X e s (.d (.int i')) s' := by subst q; exact h
theorem ZE.x {i i' : PyData} (h : ZE X e s (.d i) s') (q : i = i') : ZE X e s (.d i') s' := by subst q; exact h
end
end Z

namespace Z
open PySem L2 PyProof.Rows
section
variable {P : Program} {w : World} {K : PySem.W.Frag} {mg : Str → Option Value} {base : Heap} {x : Str} {st : Stmt} {ps N : List Str} {k : Nat}
theorem fn_dfn {f : Addr} {od an : Option Addr} {sl : Array (Option Value)} {oc kV dc pm cd ct : Value} {h : Heap} (X : K.In h) (G : h.Ns PySem.mainGlobals mg)
    (a : PySem.W.nsIn K PySem.mainGlobals x = some (some (.ref f))) (l : K.lookup f = some ⟨oc, od, .func (PySem.W.fnOf x x (defArgs st) (defBody st) (defScope st) .none kV dc pm an cd ct), sl⟩) (c : PySem.W.codeIn K cd x = true) (q : PySem.W.keepIn K (.ref f) = true)
    (b : ∀ (kV doc pm : Value) (an : Option Addr) (cdv ct : Value) (us : List Value), us.length = ps.length → bindArgs (PySem.W.fnOf x x (defArgs st) (defBody st) (defScope st) .none kV doc pm an cdv ct) ⟨us, []⟩ = pure (ps.zip us)) : Dfn K mg x st ps := by
  have F := fun_mk (st := st) l c q
  exact ⟨f, _, F, PySem.W.mg_of X G a, F.binds b⟩
theorem bl_of {F H : Hp} {v : V} {T : List En} {b : Bool} (h : OK K ((IT.d (.bool b), some v) :: T) H) : v = .bl b := by
  obtain ⟨F, f⟩ := h.fz
  obtain ⟨u, e, d⟩ := f.at List.mem_cons_self
  cases e
  cases d
  rfl
def aSc0 : List Int → List IT := fun ns => [.d (.list (ns.map .int))]
theorem dps_of_ints (K : PySem.W.Frag) (F : Hp) : ∀ ns : List Int, DpAll K F (ns.map V.int) (ns.map .int)
  | [] => .nil
  | n :: ns => .cons (.int n) (dps_of_ints K F ns)
/-- the law's head -/
def spL (K : PySem.W.Frag) : Sp := spZ K (preOf aSc0 (fun ns => ns.length ≤ 63)) (relOf aSc0 (fun ns => ns.length ≤ 63) (fun _ => .d (.bool true)) (fun _ => []))
theorem head_ok {H : Hp} {a : Addr} {ns : List Int} (hl : ns.length ≤ 63) (hS : SqL K H a (ns.map V.int)) : spL K [.ref a] H (fun v _ => v = .bl true) fun _ _ _ => False := by
  refine ⟨aSc0 ns, [], ⟨ns, hl, rfl⟩, rfl, ⟨H, [((.d (.list (ns.map .int)), some (.ref a)), [])], rfl, Ext.refl H, fun x hx => ?_, by simp [fpsOf], fun b hb => by simp [fpsOf] at hb⟩, fun z Os v H' hz ok => ?_⟩
  · have e : x = ((.d (.list (ns.map .int)), some (.ref a)), []) := by simpa using hx
    subst e
    exact ⟨rfl, _, rfl, .lst hS (dps_of_ints K H ns)⟩
  · obtain ⟨e, _⟩ := hz ns hl rfl
    subst e
    exact bl_of (F := H) ok
/-- a law by its Cal -/
theorem law_fn {f : Addr} {fd : FuncData} (F : Fun K x x st f fd) (hm : mg x = some (.ref f)) (S : FnScope N ["script"] (defScope st))
    (body : ∀ (f : Addr) (cdv : Value) (Ar : Around) (outer : List Env) (s : Shared) (H : Hp) (E : XK) (ns : List Int), ns.length ≤ 63 → Room k (Ar.deeper (envOfC x (defScope st) s.heap.objs.size f cdv)) →
      ZSs (cxOf CX0 P w K mg base N x (defScope st) f cdv Ar outer s H E).nox (defBody st) (inSt (aSc0 ns) (N.length - 1)) (poS 0 (.d (.bool true)) [])) : FnOk P w K mg base CX0 (k + 1) f fd ["script"] (spL K) := by
  refine F.ok S (fun vs H Q E h => ?_) (fun cdv A outer s H vs Q E hr h => ?_)
  · obtain ⟨ds, T, ⟨ns, _, e⟩, b, _⟩ := h
    subst e
    rw [← b]
    rfl
  · obtain ⟨ds, T, ⟨ns, hn, e⟩, b, c, d⟩ := h
    subst e
    refine run_body (X := (cxOf CX0 P w K mg base N x (defScope st) f cdv A outer s H E).nox) (N := N) rfl b c d ?_
    have e : vs.length = 1 := by rw [← b]; rfl
    rw [e]
    refine PSs.wk (body f cdv A outer s H E ns hn hr) rfl (fun t ⟨h1, h2⟩ => ?_) (fun r t h => ?_) (fun _ z => z) (fun _ z => z)
    · cases h1
    · cases r with
      | un => exact h
      | d v =>
        obtain ⟨h1, h2⟩ := h
        intro z hz e
        exact ⟨h1.symm, h2⟩
      | r j =>
        obtain ⟨hb, h, h2⟩ := h
        rcases h with ⟨O, hO, h1⟩ | ⟨es, hO, h1⟩ <;> cases h1
end
end Z

namespace Z
open PySem L2 PyProof.Rows

/-! ### looks at a member of a set -/
section
variable {P : Program} {w : World}
theorem cls_row {A : Around} {E : Value → Shared → Prop} {s : Shared} (n : Nat) (ds : List PyData) (ih : ∀ d ∈ ds, ∀ (v : Value) (Q : Bool → Shared → Prop), isAt s.heap d v → Q false s → wpAny (model P w) A (ofAClassStatement n v) Q E s)
    (v : Value) (Q : Bool → Shared → Prop) (hx : isAt s.heap (.tuple ds) v) (q : Q false s) : wpAny (model P w) A (ofAClassStatement (n + 1) v) Q E s := by
  obtain ⟨c, rfl, oc, its, m, h1, h2, h3, h4⟩ := hx
  have ty : s.TypeIs (.ref c) "tuple" := ⟨oc, h1, h2⟩
  have same : (("tuple" : String) == "tuple") = true := by decide
  unfold ofAClassStatement
  refine wpAny_bind (wpAny_typeOf ty ?_)
  dsimp only
  simp only [same, if_true, Bool.not_true, Bool.false_eq_true, if_false]
  try refine wpAny_bind (wpAny_pure ?_)
  try simp only [Bool.not_true, Bool.false_eq_true, if_false]
  show wpAny _ _ (seqItems? (.ref c) >>= _) _ _ s
  refine wpAny_bind (wpAny_seqItems h1 h3 ?_)
  dsimp only
  refine wpAny_bind ?_
  show wpAny _ _ (forIn its _ _) _ _ s
  rw [← Array.forIn_toList]
  refine wpAny_forIn_list _ (fun rest z s' => z.1 = none ∧ s' = s ∧ ∃ d1 d2, ds = d1 ++ d2 ∧ isAts s.heap d2 rest) _ ?_ ?_ _ _ ⟨rfl, rfl, [], ds, rfl, h4⟩
  · rintro u rest z s' ⟨hz, rfl, d1, d2, e1, e2⟩
    cases d2 with
    | nil => exact e2.elim
    | cons d d2 =>
      refine wpAny_bind (ih d (by rw [e1]; simp) u _ e2.1 ?_)
      simp only [Bool.false_eq_true, if_false]
      exact wpAny_pure ⟨rfl, rfl, d1 ++ [d], d2, by rw [e1]; simp, e2.2⟩
  · rintro ⟨z1, z2⟩ s' ⟨hz, rfl, _⟩
    simp only at hz
    subst hz
    exact wpAny_pure q
def CP (P : Program) (w : World) (d : PyData) : Prop := ∀ (A : Around) (E : Value → Shared → Prop) (s : Shared) (n : Nat) (v : Value) (Q : Bool → Shared → Prop), dep d ≤ n → isAt s.heap d v → Q false s → wpAny (model P w) A (ofAClassStatement n v) Q E s
mutual
theorem cls_at : ∀ (d : PyData), CP P w d
  | .int i => fun A E s n v Q hn hx q => by
    obtain ⟨t, rfl⟩ := hx
    have e : ofAClassStatement n (.int i t) = pure false := by cases n <;> rfl
    rw [e]
    exact wpAny_pure q
  | .str i => fun A E s n v Q hn hx q => by
    obtain ⟨t, rfl⟩ := hx
    have e : ofAClassStatement n (.str i t) = pure false := by cases n <;> rfl
    rw [e]
    exact wpAny_pure q
  | .tuple ds => fun A E s n v Q hn hx q => by
    have e1 : dep (.tuple ds) = deps ds + 1 := rfl
    have l := cls_all ds
    cases n with
    | zero => omega
    | succ n => exact cls_row n ds (fun d hd v Q hx q => l d hd A E s n v Q (by have := dep_mem hd; omega) hx q) v Q hx q
  | .none => fun _ _ _ _ _ _ _ hx _ => hx.elim
  | .bool _ => fun _ _ _ _ _ _ _ hx _ => hx.elim
  | .list _ => fun _ _ _ _ _ _ _ hx _ => hx.elim
  | .dict _ => fun _ _ _ _ _ _ _ hx _ => hx.elim
theorem cls_all : ∀ (ds : List PyData), ∀ d ∈ ds, CP P w d
  | [] => fun d hd => by simp at hd
  | e :: es => fun d hd => by
    have h1 := cls_at e
    have h2 := cls_all es
    rcases List.mem_cons.mp hd with z | z
    · rw [z]; exact h1
    · exact h2 d z
end
theorem hbv_row {A : Around} {E : Value → Shared → Prop} {s : Shared} (n : Nat) (ds : List PyData) (ih : ∀ d ∈ ds, ∀ (v : Value) (Q : Bool → Shared → Prop), isAt s.heap d v → (∀ b, Q b s) → wpAny (model P w) A (hashByValue n v) Q E s)
    (v : Value) (Q : Bool → Shared → Prop) (hx : isAt s.heap (.tuple ds) v) (q : ∀ b, Q b s) : wpAny (model P w) A (hashByValue (n + 1) v) Q E s := by
  obtain ⟨c, rfl, oc, its, m, h1, h2, h3, h4⟩ := hx
  have ty : s.TypeIs (.ref c) "tuple" := ⟨oc, h1, h2⟩
  unfold hashByValue
  refine wpAny_bind (wpAny_specialOf ty F.slot_tuple_hash.lookup ?_)
  show wpAny _ _ (seqItems? (.ref c) >>= _) _ _ s
  refine wpAny_bind (wpAny_seqItems h1 h3 ?_)
  refine wpAny_bind ?_
  show wpAny _ _ (forIn its _ _) _ _ s
  rw [← Array.forIn_toList]
  refine wpAny_forIn_list _ (fun rest z s' => z.1 = none ∧ s' = s ∧ ∃ d1 d2, ds = d1 ++ d2 ∧ isAts s.heap d2 rest) _ ?_ ?_ _ _ ⟨rfl, rfl, [], ds, rfl, h4⟩
  · rintro u rest z s' ⟨hz, rfl, d1, d2, e1, e2⟩
    cases d2 with
    | nil => exact e2.elim
    | cons d d2 =>
      refine wpAny_bind (ih d (by rw [e1]; simp) u _ e2.1 fun b => ?_)
      cases b with
      | true =>
        simp only [Bool.not_true, Bool.false_eq_true, if_false]
        exact wpAny_pure ⟨rfl, rfl, d1 ++ [d], d2, by rw [e1]; simp, e2.2⟩
      | false =>
        simp only [Bool.not_false, if_true]
        exact wpAny_pure (wpAny_pure (q false))
  · rintro ⟨z1, z2⟩ s' ⟨hz, rfl, _⟩
    simp only at hz
    subst hz
    exact wpAny_pure (q true)
def BP (P : Program) (w : World) (d : PyData) : Prop := ∀ (A : Around) (E : Value → Shared → Prop) (s : Shared) (n : Nat) (v : Value) (Q : Bool → Shared → Prop), isAt s.heap d v → (∀ b, Q b s) → wpAny (model P w) A (hashByValue n v) Q E s
mutual
theorem hbv_at : ∀ (d : PyData), BP P w d
  | .int i => fun A E s n v Q hx q => by
    obtain ⟨t, rfl⟩ := hx
    have e : hashByValue n (.int i t) = pure true := by cases n <;> rfl
    rw [e]
    exact wpAny_pure (q true)
  | .str i => fun A E s n v Q hx q => by
    obtain ⟨t, rfl⟩ := hx
    have e : hashByValue n (.str i t) = pure false := by cases n <;> rfl
    rw [e]
    exact wpAny_pure (q false)
  | .tuple ds => fun A E s n v Q hx q => by
    have l := hbv_all ds
    cases n with
    | zero =>
      obtain ⟨c, rfl, _⟩ := hx
      exact wpAny_pure (q false)
    | succ n => exact hbv_row n ds (fun d hd v Q hx q => l d hd A E s n v Q hx q) v Q hx q
  | .none => fun _ _ _ _ _ _ hx _ => hx.elim
  | .bool _ => fun _ _ _ _ _ _ hx _ => hx.elim
  | .list _ => fun _ _ _ _ _ _ hx _ => hx.elim
  | .dict _ => fun _ _ _ _ _ _ hx _ => hx.elim
theorem hbv_all : ∀ (ds : List PyData), ∀ d ∈ ds, BP P w d
  | [] => fun d hd => by simp at hd
  | e :: es => fun d hd => by
    have h1 := hbv_at e
    have h2 := hbv_all es
    rcases List.mem_cons.mp hd with z | z
    · rw [z]; exact h1
    · exact h2 d z
end
/-- a key of a set, as it stands -/
def KH (h : Heap) (a : Addr) (d : PyData) : Prop := isAt h d (.ref a) ∧ dep d ≤ 8
theorem KH.one {h : Heap} {a : Addr} {d e : PyData} (x : KH h a d) (y : KH h a e) : d = e := isAt_inj x.1 y.1
theorem KH.old {h h' : Heap} {a : Addr} {d : PyData} (x : KH h a d) (k : ∀ c u, h.get? c = some u → h'.get? c = some u) : KH h' a d := ⟨isAt_keep (fun c o _ _ e _ => k c o e) x.1, x.2⟩
theorem KH.but {h h' : Heap} {a c : Addr} {d : PyData} {o : Obj} {es : Array (Int × Value)} {ep : Nat} {t : SetTable} (x : KH h a d) (ho : h.get? c = some o) (hd : o.data = .set es ep t) (sb : Heap.SameBut c h h') : KH h' a d :=
  ⟨isAt_keep (fun b u its n e1 e2 => by
    by_cases eb : b = c
    · subst eb
      rw [ho] at e1
      cases e1
      rw [hd] at e2
      cases e2
    · exact (sb.2 b eb).trans e1) x.1, x.2⟩
theorem seen_no {A : Around} {E : Value → Shared → Prop} {s : Shared} {b : Addr} {d : PyData} {Q : Bool → Shared → Prop} (x : KH s.heap b d) {ys : List Value} (hy : ∀ y ∈ ys, ∃ e c, y = .ref c ∧ KH s.heap c e) (q : Q false s) :
    wpAny (model P w) A (searchCouldBeSeen (.ref b) ys) Q E s := by
  unfold searchCouldBeSeen
  refine wpAny_bind ?_
  refine wpAny_forIn_list _ (fun rest z s' => z.1 = none ∧ s' = s ∧ ∀ y ∈ rest, ∃ e c, y = Value.ref c ∧ KH s.heap c e) _ ?_ ?_ _ _ ⟨rfl, rfl, hy⟩
  · rintro u rest z s' ⟨hz, rfl, all⟩
    obtain ⟨e, c, rfl, hc⟩ := all u List.mem_cons_self
    have more : ∀ y ∈ rest, ∃ e c, y = Value.ref c ∧ KH s'.heap c e := fun y m => all y (List.mem_cons_of_mem _ m)
    dsimp only
    by_cases hv : (b == c || (carriedByValue (.ref b) && carriedByValue (.ref c))) = true
    · refine wp_if_pos hv ?_
      exact wpAny_pure ⟨rfl, rfl, more⟩
    · refine wp_if_neg hv ?_
      refine wpAny_bind (quiet_at d A _ _ 8 _ _ x.2 x.1 ?_)
      simp only [Bool.not_true, Bool.false_eq_true, if_false]
      refine wpAny_bind (quiet_at e A _ _ 8 _ _ hc.2 hc.1 ?_)
      simp only [Bool.not_true, Bool.false_eq_true, if_false]
      refine wpAny_bind (cls_at d A _ _ 8 _ _ x.2 x.1 ?_)
      simp only [Bool.false_eq_true, if_false]
      refine wpAny_bind (cls_at e A _ _ 8 _ _ hc.2 hc.1 ?_)
      simp only [Bool.false_eq_true, if_false]
      exact wpAny_pure ⟨rfl, rfl, more⟩
  · rintro ⟨z1, z2⟩ s' ⟨hz, rfl, _⟩
    simp only at hz
    subst hz
    exact wpAny_pure q

/-! ### the set -/
abbrev SEn := Addr × PyData
def rowsD (w : World) (L : List SEn) : List (Int × Value) := L.map fun p => (hashD w p.2, Value.ref p.1)
def hsD (w : World) (L : List SEn) : List Int := L.map fun p => hashD w p.2
structure SR (w : World) (h : Heap) (a : Addr) (L : List SEn) (es : Array (Int × Value)) (ep : Nat) (t : SetTable) : Prop where
  ob : ∃ o, h.get? a = some o ∧ o.ExactSet ∧ o.data = .set es ep t
  rows : es.toList = rowsD w L
  tab : TabOk t (hsD w L)
  nd : (L.map (·.2)).Nodup
  keys : ∀ p ∈ L, KH h p.1 p.2
  led : w.params.followText "set-order" = true ∨ t.led = true
  room : L.length * 5 < t.mask * 3
  few : L.length < 64
section
variable {A : Around} {E : Value → Shared → Prop} {s : Shared} {a : Addr} {L : List SEn} {es : Array (Int × Value)} {ep : Nat} {t : SetTable}
theorem rowsD_len {es : Array (Int × Value)} {L : List SEn} (h : es.toList = rowsD w L) : es.size = L.length := by
  have := congrArg List.length h
  simpa [rowsD] using this
theorem hsD_len : (hsD w L).length = L.length := by simp [hsD]
theorem SR.fit (R : SR w s.heap a L es ep t) : t.fits es.size = true := by
  have h1 := R.tab.sz
  rw [hsD_len] at h1
  have h2 := rowsD_len R.rows
  have h3 := R.room
  unfold SetTable.fits SetTable.fill
  rw [R.tab.dm]
  simp
  omega
theorem SR.at (R : SR w s.heap a L es ep t) {i : Nat} {p : SEn} (h : L[i]? = some p) : es[i]? = some (hashD w p.2, Value.ref p.1) := by
  rw [← Array.getElem?_toList, R.rows]
  simp [rowsD, h]
theorem SR.stays (R : SR w s.heap a L es ep t) : ¬ t.gaveWay = true := by
  unfold SetTable.gaveWay
  rw [mask_odd R.tab.mok]
  decide
/-- the c-th look of the search for a hash -/
abbrev lk (t : SetTable) (h : Int) (c : Nat) : SetTable.Probe := nth t.mask (runAt t.mask (SetTable.bits h % (t.mask + 1)) (SetTable.bits h)) c
theorem lk_add (t : SetTable) (h : Int) (c d : Nat) : nth t.mask (lk t h c) d = lk t h (c + d) := (nth_add t.mask c _ d).symm
theorem lk_dum (t : SetTable) (h : Int) : ∀ c, (lk t h c).dummy = none := fun c => by
  have all : ∀ (n : Nat) (p : SetTable.Probe), p.dummy = none → (nth t.mask p n).dummy = none := fun n => by
    induction n with
    | zero => exact fun p e => e
    | succ n ih => exact fun p e => ih _ (by unfold adv; split <;> exact e)
  exact all c _ rfl
theorem srch (R : SR w s.heap a L es ep t) {x : Addr} {k : PyData} (hx : KH s.heap x k) (hu : A.units + 10 < cLine) {K : Nat} (kf : K < 10 * SetTable.turns t.mask)
    (fr : way t.mask (hashD w k) K ∉ t.place.toList) (ta : ∀ c, c < K → way t.mask (hashD w k) c ∈ t.place.toList) {Q : SetFound → Shared → Prop} (yes : k ∈ L.map (·.2) → Q (.there none) s) (no : k ∉ L.map (·.2) → Q (.free (way t.mask (hashD w k) K) false) s) :
    ∀ (f c : Nat) (st : Option SetTable.Probe), st.getD (t.probeStart (hashD w k)) = lk t (hashD w k) c → c ≤ K → K - c < f →
      (∀ (i : Nat) (p : SEn), L[i]? = some p → p.2 = k → ∃ z, c ≤ z ∧ z < K ∧ t.place.toList[i]? = some (way t.mask (hashD w k) z)) →
      wpAny (model P w) A (setSearchFrom a (.ref x) (hashD w k) true f st) Q E s := by
  intro f
  induction f with
  | zero => intro c st _ _ h; exact absurd h (Nat.not_lt_zero _)
  | succ f ih =>
    intro c st e0 hc hf ahead
    obtain ⟨o, q1, q2, q3⟩ := R.ob
    rw [setSearchFrom_succ]
    refine wpAny_bind (wpAny_setState_of q1 q3 R.fit ?_)
    dsimp only
    refine wp_if_neg R.stays ?_
    try refine wpAny_bind (wpAny_pure ?_)
    have wy : ∀ d, (nth t.mask (lk t (hashD w k) c) d).j = way t.mask (hashD w k) (c + d) := fun d => congrArg SetTable.Probe.j (lk_add t _ c d)
    have back : c + (K - c) = K := by omega
    have look := go_spec t R.tab.ris R.tab.dm (fun i => (es[i]?.map (·.1)).getD 0) (hashD w k) (10 * SetTable.turns t.mask) (K - c) (lk t (hashD w k) c) (lk_dum t _ c) (by omega) (fun d hd => by rw [wy]; exact ta (c + d) (by omega)) (by rw [wy, back]; exact fr)
    have hh : ∀ {i : Nat} {p : SEn}, L[i]? = some p → (es[i]?.map (·.1)).getD 0 = hashD w p.2 := fun h => by rw [R.at h]; rfl
    rcases look with ⟨d, i, hd, hi, e1, none_before, e2⟩ | ⟨none_at, e2⟩
    · -- one with this hash
      have pr : t.probe (fun i => (es[i]?.map (·.1)).getD 0) (hashD w k) (st.getD (t.probeStart (hashD w k))) = some (.candidate (way t.mask (hashD w k) (c + d)) i (lk t (hashD w k) (c + (d + 1)))) := by
        rw [e0, ← wy, ← lk_add]
        exact e2
      rw [pr]
      dsimp only
      rw [wy] at hi
      have il : i < L.length := by
        have z1 := (List.getElem?_eq_some_iff.mp hi).1
        have z2 := R.tab.sz
        rw [hsD_len] at z2
        rw [Array.length_toList] at z1
        omega
      obtain ⟨p, hp⟩ : ∃ p, L[i]? = some p := ⟨_, List.getElem?_eq_getElem il⟩
      have pm := List.mem_of_getElem? hp
      have pk := R.keys p pm
      have go : wpAny (model P w) A (searchRest a (.ref x) (hashD w k) true f es t (way t.mask (hashD w k) (c + d)) i (lk t (hashD w k) (c + (d + 1)))) Q E s := by
        unfold searchRest
        rw [R.at hp]
        dsimp only
        refine wpAny_bind (wpAny_holding (eq_at p.2 A s k _ _ _ E (by have := pk.2; omega) pk.1 hx.1 ?_))
        refine wpAny_bind (wpAny_setState_of q1 q3 R.fit ?_)
        dsimp only
        by_cases hk : p.2 = k
        · refine wp_if_pos (by simp [hk]) (wpAny_pure (yes ?_))
          exact List.mem_map.mpr ⟨p, pm, hk⟩
        · refine wp_if_neg (by simp [hk]) ?_
          try refine wpAny_bind (wpAny_pure ?_)
          rw [sameMem]
          dsimp only
          have sl := slot_live R.tab.ris hi
          simp only [if_true, sl, R.at hp]
          refine wpAny_bind (wpAny_isSame_ref_self (wpAny_bind (wpAny_pure ?_)))
          simp only [if_true]
          refine wp_if_neg (by simp [hk]) ?_
          refine ih (c + (d + 1)) _ rfl (by omega) (by omega) fun i0 p0 h0 k0 => ?_
          obtain ⟨z, z1, z2, z3⟩ := ahead i0 p0 h0 k0
          refine ⟨z, ?_, z2, z3⟩
          rcases Nat.lt_trichotomy z (c + d) with y | y | y
          · exfalso
            refine none_before (z - c) i0 (by omega) (by rw [wy, show c + (z - c) = z by omega]; exact z3) ?_
            rw [hh h0, k0]
          · exfalso
            subst y
            have s2 := slot_live R.tab.ris z3
            rw [sl] at s2
            injection s2 with s2
            subst s2
            rw [hp] at h0
            cases h0
            exact hk k0
          · omega
      by_cases hl : t.led = true
      · refine wp_if_neg (by simp [hl]) ?_
        try refine wpAny_bind (wpAny_pure ?_)
        exact go
      · refine wp_if_pos (by simp [hl]) ?_
        refine wpAny_bind (seen_no hx (fun y hy => ?_) ?_)
        · obtain ⟨e, he, ee⟩ := List.mem_map.mp hy
          have he2 : e ∈ es.toList := by
            have : e ∈ es ∧ e.1 = hashD w k := by simpa using he
            simpa using this.1
          rw [R.rows] at he2
          obtain ⟨p2, m2, rfl⟩ := List.mem_map.mp he2
          exact ⟨p2.2, p2.1, ee.symm, R.keys p2 m2⟩
        · refine wp_if_neg (by decide) ?_
          try refine wpAny_bind (wpAny_pure ?_)
          exact go
    · -- an empty place
      have pr : t.probe (fun i => (es[i]?.map (·.1)).getD 0) (hashD w k) (st.getD (t.probeStart (hashD w k))) = some (.empty (way t.mask (hashD w k) K) none) := by
        have e3 := wy (K - c)
        rw [back] at e3
        rw [e0, ← e3]
        exact e2
      rw [pr]
      dsimp only
      refine wpAny_pure (no fun hm => ?_)
      obtain ⟨p0, m0, k0⟩ := List.mem_map.mp hm
      obtain ⟨i0, b0, e4⟩ := List.getElem_of_mem m0
      have h0 : L[i0]? = some p0 := by rw [List.getElem?_eq_getElem b0, e4]
      obtain ⟨z, z1, z2, z3⟩ := ahead i0 p0 h0 k0
      refine none_at (z - c) i0 (by omega) (by rw [wy, show c + (z - c) = z by omega]; exact z3) ?_
      rw [hh h0, k0]
/-- .. from its start -/
theorem srch0 (R : SR w s.heap a L es ep t) {x : Addr} {k : PyData} (hx : KH s.heap x k) (hu : A.units + 10 < cLine) {Q : SetFound → Shared → Prop} (yes : k ∈ L.map (·.2) → Q (.there none) s)
    (no : ∀ K, k ∉ L.map (·.2) → way t.mask (hashD w k) K ∉ t.place.toList → (∀ c, c < K → way t.mask (hashD w k) c ∈ t.place.toList) → Q (.free (way t.mask (hashD w k) K) false) s) :
    wpAny (model P w) A (setSearch a (.ref x) (hashD w k) true) Q E s := by
  have r := R.room
  obtain ⟨K, kf, fr, ta⟩ := R.tab.first (by rw [hsD_len]; omega) (hashD w k)
  have few : K < 100000 := by
    have : 10 * SetTable.turns t.mask ≤ 1420 := by
      unfold SetTable.turns
      rcases R.tab.mok with e | e | e <;> omega
    omega
  unfold setSearch
  refine srch R hx hu kf fr ta yes (fun z => no K z fr ta) 100000 0 none rfl (Nat.zero_le _) (by omega) fun i p hp hk => ?_
  have hi : (hsD w L)[i]? = some (hashD w k) := by unfold hsD; rw [List.getElem?_map, hp, ← hk]; rfl
  have il : i < t.place.toList.length := by
    have z1 := (List.getElem?_eq_some_iff.mp hi).1
    have z2 := R.tab.sz
    rw [Array.length_toList]
    omega
  have hj := List.getElem?_eq_getElem il
  obtain ⟨z, z1, e⟩ := R.tab.before fr hi hj
  exact ⟨z, Nat.zero_le _, z1, by rw [hj, e]⟩
/-! one more, laid anew where it grows -/
theorem fm_range {α : Type} : ∀ (r : List α), (List.range r.length).filterMap (fun m => r[m]?) = r
  | [] => rfl
  | a :: r => by
    rw [List.length_cons, List.range_succ_eq_map, List.filterMap_cons]
    simp only [List.getElem?_cons_zero, List.filterMap_map]
    exact congrArg (a :: ·) (fm_range r)
theorem ordered {es : Array (Int × Value)} {L : List SEn} (hr : es.toList = rowsD w L) {od : Array Nat} (hp : od.toList.Perm (List.range L.length)) :
    ∃ M : List SEn, (od.filterMap (es[·]?)).toList = rowsD w M ∧ M.Perm L ∧ hsD w M = od.toList.map fun i => (es.map (·.1)).getD i 0 := by
  have one : ∀ i : Nat, es[i]? = (L[i]?).map fun p : SEn => (hashD w p.2, Value.ref p.1) := fun i => by
    rw [← Array.getElem?_toList, hr]
    simp [rowsD]
  refine ⟨od.toList.filterMap (fun i => L[i]?), ?_, ?_, ?_⟩
  · rw [Array.toList_filterMap]
    unfold rowsD
    rw [List.map_filterMap]
    exact congrArg (fun f => List.filterMap f od.toList) (funext one)
  · have := hp.filterMap (fun i => L[i]?)
    rwa [fm_range] at this
  · have each : ∀ l : List Nat, (∀ i ∈ l, i < L.length) → hsD w (l.filterMap fun i => L[i]?) = l.map fun i => (es.map (·.1)).getD i 0 := by
      intro l
      induction l with
      | nil => intro _; rfl
      | cons i l ih =>
        intro hl
        have hi := hl i List.mem_cons_self
        have e0 := ih fun j hj => hl j (List.mem_cons_of_mem _ hj)
        rw [List.filterMap_cons, List.getElem?_eq_getElem hi, List.map_cons, ← e0]
        have e1 : (es.map (·.1))[i]? = some (hashD w L[i].2) := by
          rw [Array.getElem?_map, one, List.getElem?_eq_getElem hi]
          rfl
        simp only [hsD, List.map_cons, Array.getD_eq_getD_getElem?, e1, Option.getD_some]
    exact each _ fun i hi => List.mem_range.mp (hp.mem_iff.mp hi)
theorem anew {o : Obj} (q1 : s.heap.get? a = some o) (q2 : o.ExactSet) (q3 : o.data = .set es ep t) (hr : es.toList = rowsD w L) (z1 : t.place.size = es.size) (z2 : t.dummies = #[]) (z3 : es.size ≤ t.mask) (nd : (L.map (·.2)).Nodup) (ks : ∀ p ∈ L, KH s.heap p.1 p.2)
    (ld : w.params.followText "set-order" = true ∨ t.led = true) (few : L.length < 64) {wanted M : Nat} (w1 : SetTable.sizeAbove wanted - 1 = M) (w2 : MaskOk M) (w3 : SetTable.sizeAbove wanted ≤ 128) (w4 : L.length * 5 < M * 3) {Q : Unit → Shared → Prop}
    (k : ∀ h' L' es' ep' t', Heap.SameBut a s.heap h' → SR w h' a L' es' ep' t' → L'.Perm L → Q () { s with heap := h' }) : wpAny (model P w) A (setRelay a wanted) Q E s := by
  have ln := rowsD_len hr
  have ft : t.fits es.size = true := by
    unfold SetTable.fits SetTable.fill
    rw [z2]
    simp
    omega
  obtain ⟨t', od, r1, r2, r3, r4, r5, r6, r7⟩ := relaid_ok t (hs := es.map (·.1)) (wanted := wanted) w1 w2 (by rw [Array.size_map, ln]; omega)
  rw [Array.size_map, ln] at r2
  obtain ⟨L', m1, m2, m3⟩ := ordered hr r2
  rw [← m3] at r3
  have l2 := rowsD_len m1
  have l3 := m2.length_eq
  rw [setRelay_eq]
  refine wpAny_bind (wpAny_setState_of q1 q3 ft ?_)
  dsimp only
  refine wp_if_neg (by rw [sizeLine_eq]; omega) ?_
  try refine wpAny_bind (wpAny_pure ?_)
  rw [r1]
  dsimp only
  refine wpAny_bind ?_
  refine wp_if_neg (by rw [l2, l3, ln]; simp) ?_
  try refine wpAny_bind (wpAny_pure ?_)
  refine wpAny_pure ?_
  dsimp only
  refine wpAny_storeSet_of q1 q3 ?_ (by rw [l2, l3, sizeLine_eq]; omega)
  have sb : Heap.SameBut a s.heap (s.heap.update a (Obj.putSet (od.filterMap (es[·]?)) t')) := Heap.SameBut.update ..
  refine k _ L' _ (ep + 1) t' sb ⟨⟨_, store_at q1 q3, ⟨q2.1, q2.2.1, q2.2.2⟩, rfl⟩, m1, r3, (m2.map _).nodup_iff.mpr nd, fun p hp => (ks p (m2.mem_iff.mp hp)).but q1 q3 sb, by rw [r5]; exact ld, by rw [l3, r4]; exact w4, by rw [l3]; exact few⟩ m2
theorem addD (R : SR w s.heap a L es ep t) {x : Addr} {k : PyData} (hx : KH s.heap x k) (hu : A.units + 10 < cLine) (few : L.length + 1 < 64) {Q : Bool → Shared → Prop}
    (fin : ∀ b h' L' es' ep' t', Heap.SameBut a s.heap h' → SR w h' a L' es' ep' t' → (k ∈ L.map (·.2) → L' = L) → (k ∉ L.map (·.2) → L'.Perm ((x, k) :: L)) → Q b { s with heap := h' }) :
    wpAny (model P w) A (setAddHashed a (.ref x) (hashD w k)) Q E s := by
  obtain ⟨o, q1, q2, q3⟩ := R.ob
  have ln := rowsD_len R.rows
  have rm := R.room
  unfold setAddHashed
  refine wpAny_holding ?_
  rw [show (100000 : Nat) = 99999 + 1 from rfl, setAddHashedIn_succ]
  refine wpAny_bind (wpAny_setState_of q1 q3 R.fit ?_)
  dsimp only
  refine wp_if_neg (by simp [byScan, Value.scannable]) ?_
  try refine wpAny_bind (wpAny_pure ?_)
  refine wpAny_bind (srch0 R hx hu (fun hm => ?_) fun K hm fr ta => ?_)
  · dsimp only
    exact wpAny_pure (fin false s.heap L es ep t (Heap.SameBut.refl a s.heap) R (fun _ => rfl) fun z => absurd hm z)
  · dsimp only
    refine wpAny_bind (wpAny_setState_of q1 q3 R.fit ?_)
    dsimp only
    obtain ⟨p1, p2, p3, p4, p5, p6, p7, p8, p9⟩ := R.tab.put fr ta
    generalize hb : SetTable.below t.place (way t.mask (hashD w k) K) = b at p1 p2 p3
    generalize hpt : t.put (way t.mask (hashD w k) K) = pt at p1 p3 p4 p5 p6 p7 p8 p9 ⊢
    obtain ⟨t1, b1⟩ := pt
    dsimp only at p1 p3 p4 p5 p6 p7 p8 p9 ⊢
    subst p1
    -- what is stored
    have h1 : (SetTable.insertAt es b1 (hashD w k, Value.ref x)).toList = rowsD w (L.take b1 ++ (x, k) :: L.drop b1) := by
      rw [SetTable.toList_insertAt, R.rows]
      simp [rowsD, List.map_take, List.map_drop]
    have h2 : hsD w (L.take b1 ++ (x, k) :: L.drop b1) = (hsD w L).take b1 ++ hashD w k :: (hsD w L).drop b1 := by
      simp [hsD, List.map_take, List.map_drop]
    rw [← h2] at p3
    have pm : (L.take b1 ++ (x, k) :: L.drop b1).Perm ((x, k) :: L) := by
      have := List.perm_middle (a := ((x, k) : SEn)) (l₁ := L.take b1) (l₂ := L.drop b1)
      rwa [List.take_append_drop] at this
    have l1 := pm.length_eq
    rw [List.length_cons] at l1
    have l2 := rowsD_len h1
    generalize SetTable.insertAt es b1 (hashD w k, Value.ref x) = es1 at h1 l2 ⊢
    generalize L.take b1 ++ (x, k) :: L.drop b1 = L1 at p3 pm h1 l1 l2
    have nd1 : (L1.map (·.2)).Nodup := (pm.map _).nodup_iff.mpr (List.nodup_cons.mpr ⟨hm, R.nd⟩)
    -- behind the question of its hash
    have rest : ∀ t2 : SetTable, (t2 = t1 ∨ t2 = { t1 with plain := false }) → wpAny (model P w) A (do
        storeSet a es1 t2
        if !false && t2.tooFull then setRelay a (SetTable.grown (es.size + 1))
        return true) Q E s := fun t2 ht => by
      have g1 : TabOk t2 (hsD w L1) := by rcases ht with rfl | rfl; exact p3; exact ⟨p3.ris, p3.dm, p3.sz, p3.mok, p3.bd, p3.reach⟩
      have g2 : t2.mask = t.mask := by rcases ht with rfl | rfl <;> exact p4
      have g3 : t2.led = t.led := by rcases ht with rfl | rfl <;> exact p5
      have g4 : t2.fill = L.length + 1 := by rw [hsD_len] at p9; rcases ht with rfl | rfl <;> exact p9
      have ld : w.params.followText "set-order" = true ∨ t2.led = true := by rw [g3]; exact R.led
      refine wpAny_bind (wpAny_storeSet_of q1 q3 ?_ (by rw [l2, sizeLine_eq]; omega))
      have sb : Heap.SameBut a s.heap (s.heap.update a (Obj.putSet es1 t2)) := Heap.SameBut.update ..
      have so := store_at (es' := es1) (t' := t2) q1 q3
      generalize s.heap.update a (Obj.putSet es1 t2) = hp at sb so ⊢
      have ks : ∀ p ∈ L1, KH hp p.1 p.2 := fun p hp' => by
        rcases List.mem_cons.mp (pm.mem_iff.mp hp') with e | m
        · rw [e]; exact hx.but q1 q3 sb
        · exact (R.keys p m).but q1 q3 sb
      by_cases tf : t2.tooFull = true
      · first
          | (refine wpAny_bind ?_; refine wp_if_pos (by simp [tf]) ?_)
          | (refine wp_if_pos (by simp [tf]) ?_; refine wpAny_bind ?_)
        have full : (L.length + 1) * 5 ≥ t2.mask * 3 := by
          have h := tf
          unfold SetTable.tooFull at h
          rw [decide_eq_true_eq, g4] at h
          exact h
        rw [ln]
        have two : (t.mask = 7 ∧ L.length = 4) ∨ (t.mask = 31 ∧ L.length = 18) := by
          rcases R.tab.mok with e | e | e
          · left; rw [g2, e] at full; rw [e] at rm; exact ⟨e, by omega⟩
          · right; rw [g2, e] at full; rw [e] at rm; exact ⟨e, by omega⟩
          · exfalso; rw [g2, e] at full; omega
        have sz := g1.sz
        rw [hsD_len] at sz
        have go : ∀ M, SetTable.sizeAbove (SetTable.grown (L.length + 1)) - 1 = M → MaskOk M → SetTable.sizeAbove (SetTable.grown (L.length + 1)) ≤ 128 → (L.length + 1) * 5 < M * 3 →
            wpAny (model P w) A (setRelay a (SetTable.grown (L.length + 1))) (fun _ s' => wpAny (model P w) A (pure true) Q E s') E { s with heap := hp } := fun M y1 y2 y3 y4 => by
          refine anew (s := { s with heap := hp }) so ⟨q2.1, q2.2.1, q2.2.2⟩ rfl h1 (by rw [sz, l2]) g1.dm (by rw [l2, g2]; omega) nd1 ks ld (by omega) y1 y2 y3 (by rw [l1]; exact y4) fun h2 L2 es2 ep2 t2 sb2 R2 pm2 => ?_
          exact wpAny_pure (fin true h2 L2 es2 ep2 t2 (sb.trans sb2) R2 (fun z => absurd z hm) fun _ => pm2.trans pm)
        rcases two with ⟨_, e2⟩ | ⟨_, e2⟩
        · exact go 31 (by rw [e2, size_20]) (.inr (.inl rfl)) (by rw [e2, size_20]; decide) (by omega)
        · exact go 127 (by rw [e2, size_76]) (.inr (.inr rfl)) (by rw [e2, size_76]; decide) (by omega)
      · first
          | refine wp_if_neg (by simp [tf]) ?_
          | (refine wpAny_bind ?_; refine wp_if_neg (by simp [tf]) ?_; refine wpAny_pure ?_)
        refine wpAny_pure (fin true hp L1 es1 (ep + 1) t2 sb ⟨⟨_, so, ⟨q2.1, q2.2.1, q2.2.2⟩, rfl⟩, h1, g1, nd1, ks, ld, ?_, by omega⟩ (fun z => absurd z hm) fun _ => pm)
        have h := tf
        unfold SetTable.tooFull at h
        rw [decide_eq_true_eq, g4] at h
        omega
    by_cases pl : t1.plain = true
    · first
        | (refine wpAny_bind ?_; refine wp_if_pos pl ?_; refine hbv_at k A _ _ 8 _ _ hx.1 fun v => ?_)
        | refine wp_if_pos pl (wpAny_bind (hbv_at k A _ _ 8 _ _ hx.1 fun v => ?_))
      cases v with
      | true => simp only [if_true]; exact rest t1 (.inl rfl)
      | false => simp only [Bool.false_eq_true, if_false]; exact rest _ (.inr rfl)
    · first
        | (refine wpAny_bind ?_; refine wp_if_neg pl ?_; refine wpAny_pure ?_; simp only [if_true]; exact rest t1 (.inl rfl))
        | (refine wp_if_neg pl ?_; refine wpAny_bind (wpAny_pure ?_); simp only [if_true]; exact rest t1 (.inl rfl))
        | (refine wp_if_neg pl ?_; simp only [if_true]; exact rest t1 (.inl rfl))
end
end
end Z

namespace Z
open PySem L2 PyProof.Rows

/-! ### set(xs), xs a list of tuples -/
/-- what the first i give -/
def Gt (ks : List SEn) (i : Nat) (L : List SEn) : Prop := (∀ p ∈ L, p ∈ ks.take i) ∧ (∀ p ∈ ks.take i, p.2 ∈ L.map (·.2)) ∧ L.length ≤ i
theorem tk1 {α : Type} {l : List α} {i : Nat} {x : α} (h : l[i]? = some x) : l.take (i + 1) = l.take i ++ [x] := by rw [List.take_add_one, h]; rfl
theorem Gt.there {ks L : List SEn} {i : Nat} {x : SEn} (g : Gt ks i L) (h : ks[i]? = some x) (m : x.2 ∈ L.map (·.2)) : Gt ks (i + 1) L := by
  obtain ⟨g1, g2, g3⟩ := g
  unfold Gt
  rw [tk1 h]
  refine ⟨fun p hp => List.mem_append_left _ (g1 p hp), fun p hp => ?_, by omega⟩
  rcases List.mem_append.mp hp with z | z
  · exact g2 p z
  · have : p = x := by simpa using z
    rw [this]; exact m
theorem Gt.one {ks L L' : List SEn} {i : Nat} {x : SEn} (g : Gt ks i L) (h : ks[i]? = some x) (pm : L'.Perm (x :: L)) : Gt ks (i + 1) L' := by
  obtain ⟨g1, g2, g3⟩ := g
  unfold Gt
  rw [tk1 h]
  refine ⟨fun p hp => ?_, fun p hp => ?_, by rw [pm.length_eq, List.length_cons]; omega⟩
  · rcases List.mem_cons.mp (pm.mem_iff.mp hp) with e | z
    · exact List.mem_append_right _ (by rw [e]; simp)
    · exact List.mem_append_left _ (g1 p z)
  · refine (pm.map (·.2)).mem_iff.mpr ?_
    rw [List.map_cons]
    rcases List.mem_append.mp hp with z | z
    · exact List.mem_cons_of_mem _ (g2 p z)
    · have : p = x := by simpa using z
      rw [this]; exact List.mem_cons_self
def set0 (w : World) : Obj := { cls := .type "set", dict := none, data := .set #[] 0 (.fresh 0 0 (!w.params.followText "set-order")) }
section
variable {P : Program} {w : World} {A : Around} {E : Value → Shared → Prop} {s : Shared}
theorem SR.kept {h h' : Heap} {a : Addr} {L : List SEn} {es : Array (Int × Value)} {ep : Nat} {t : SetTable} (R : SR w h a L es ep t) (ka : ∀ o, h.get? a = some o → h'.get? a = some o) (kk : ∀ p ∈ L, KH h' p.1 p.2) : SR w h' a L es ep t := by
  obtain ⟨o, e, r⟩ := R.ob
  exact ⟨⟨o, ka o e, r⟩, R.rows, R.tab, R.nd, kk, R.led, R.room, R.few⟩
theorem sr_new {h : Heap} {a : Addr} (ho : h.get? a = some (set0 w)) : SR w h a [] #[] 0 (.fresh 0 0 (!w.params.followText "set-order")) where
  ob := ⟨_, ho, ⟨rfl, rfl, rfl⟩, rfl⟩
  rows := rfl
  tab := ⟨List.Pairwise.nil, rfl, rfl, .inl rfl, fun x m => (by cases m), fun i h j e => (by simp [hsD] at e)⟩
  nd := List.nodup_nil
  keys := fun p m => (by cases m)
  led := by
    show _ ∨ (!w.params.followText "set-order") = true
    cases w.params.followText "set-order" <;> simp
  room := by show 0 * 5 < 7 * 3; decide
  few := by show 0 < 64; decide
theorem upd_loop {I : Addr} {fp wr : List Addr} {G : Array GenState → Array GenState → Prop} {n : Nat} {Pv : Nat → Value → Prop} {St : Nat → Shared → Prop} {R : Result → Shared → Prop}
    (W : WalksS P w A.in1 I fp wr G n Pv St) (S : Addr) (nS : S ∉ fp) (ks : List SEn) (hn : n = ks.length) (few : ks.length < 64) (val : ∀ i v, Pv i v → ∃ p, ks[i]? = some p ∧ v = .ref p.1)
    (h0 : Heap) (kk : ∀ p ∈ ks, KH h0 p.1 p.2) (fS : h0.get? S = none) (fw : ∀ b ∈ wr, h0.get? b = none) (hu : A.in1.units + 10 < cLine)
    (fin : ∀ s' L es ep t, Moved (S :: wr) G s s' → SR w s'.heap S L es ep t → Gt ks n L → (∀ b o, h0.get? b = some o → s'.heap.get? b = some o) → R (.ok (.ret .none)) s') :
    ∀ (m i : Nat) (s1 : Shared), n - i = m → i ≤ n → (∀ s', Moved (S :: wr) G s1 s' → Moved (S :: wr) G s s') → St i s1 → (∀ b o, h0.get? b = some o → s1.heap.get? b = some o) → (∃ L es ep t, SR w s1.heap S L es ep t ∧ Gt ks i L) →
      codeAny (model P w) A (.builtin "set.update.loop" ⟨[.ref S, .ref I], []⟩) R s1 := by
  have nw : S ∉ wr := fun h => nS (W.sub _ h)
  have sub : ∀ b ∈ wr, b ∈ S :: wr := fun b hb => List.mem_cons_of_mem _ hb
  have stay : ∀ {u v : Shared}, Moved wr G u v → (∀ b o, h0.get? b = some o → u.heap.get? b = some o) → ∀ b o, h0.get? b = some o → v.heap.get? b = some o := fun hm k b o e =>
    hm.heap b o (fun hb => by rw [fw b hb] at e; cases e) (k b o e)
  intro m
  induction m with
  | zero =>
    intro i s1 em hi bk st k ⟨L, es, ep, t, R1, g⟩
    have ei : i = n := by omega
    subst ei
    refine codeAny_builtin F.entry_set_update_loop ?_
    rw [Around.under_plainId F.plain_set_update_loop _]
    show wpAny _ A.in1 (pyNext (.ref I) >>= _) _ _ s1
    refine wpAny_bind (W.done s1 _ _ st fun s' hm => ?_)
    show wpAny _ A.in1 (ret Value.none) _ _ s'
    have k' := stay hm k
    have inn : ∀ p ∈ L, p ∈ ks := fun p hp => List.mem_of_mem_take (g.1 p hp)
    exact wpAny_pure (fin s' L es ep t (bk _ (hm.mono sub)) (R1.kept (fun o e => hm.heap S o nw e) fun p hp => (kk p (inn p hp)).old k') g k')
  | succ m ih =>
    intro i s1 em hi bk st k ⟨L, es, ep, t, R1, g⟩
    have lt : i < n := by omega
    refine codeAny_builtin F.entry_set_update_loop ?_
    rw [Around.under_plainId F.plain_set_update_loop _]
    show wpAny _ A.in1 (pyNext (.ref I) >>= _) _ _ s1
    refine wpAny_bind (W.item i s1 _ _ lt st fun v s2 hP st2 hm => ?_)
    obtain ⟨p, hp, rfl⟩ := val i v hP
    have k2 := stay hm k
    have inn : ∀ p ∈ L, p ∈ ks := fun p hp => List.mem_of_mem_take (g.1 p hp)
    have R2 : SR w s2.heap S L es ep t := R1.kept (fun o e => hm.heap S o nw e) fun p hp => (kk p (inn p hp)).old k2
    have hx : KH s2.heap p.1 p.2 := (kk p (List.mem_of_getElem? hp)).old k2
    show wpAny _ A.in1 (holding [Value.ref p.1] (setAdd S (.ref p.1)) >>= _) _ _ s2
    refine wpAny_bind (wpAny_holding ?_)
    unfold setAdd
    refine wpAny_holding ?_
    refine wpAny_bind (hash_at _ p.2 A.in1 s2 _ _ (by have := hx.2; omega) hx.1 ?_)
    refine addD (s := { s2 with toks := s2.toks + drw p.2 }) R2 hx hu (by have := g.2.2; omega) fun b h3 L3 es3 ep3 t3 sb R3 c1 c2 => ?_
    have g3 : Gt ks (i + 1) L3 := by
      rcases Classical.em (p.2 ∈ L.map (·.2)) with c | c
      · rw [c1 c]; exact g.there hp c
      · exact g.one hp (c2 c)
    have k3 : ∀ b o, h0.get? b = some o → h3.get? b = some o := fun b o e => (sb.2 b (fun z => by rw [z, fS] at e; cases e)).trans (k2 b o e)
    have mv : Moved (S :: wr) G s1 { s2 with heap := h3, toks := s2.toks + drw p.2 } := (hm.mono sub).then_heap (Nat.le_add_right _ _) fun b o hb e => by
      rw [sb.2 b (fun z : b = S => hb (by rw [z]; exact List.mem_cons_self))]; exact e
    refine wpAny_pure ⟨plainId_quiet F.plain_set_update_loop _, ih (i + 1) _ (by omega) lt (fun s' q => bk s' (Moved.trans W.gtrans mv q)) (W.frame _ s2 _ _ st2 (Nat.le_add_right _ _) fun b hb o e => ?_) k3 ⟨L3, es3, ep3, t3, R3, g3⟩⟩
    rw [sb.2 b (fun z : b = S => nS (by rw [← z]; exact hb))]; exact e
theorem call_setD {l : Addr} {its : Array Value} (ks : List SEn) {Q : Value → Shared → Prop} (hh : A.handled = none) (hl : s.heap.IsList l its) (hit : its.toList = ks.map fun p => Value.ref p.1)
    (kk : ∀ p ∈ ks, KH s.heap p.1 p.2) (few : ks.length < 64) (hu : A.units + 20 < cLine)
    (fin : ∀ (h' : Heap) (tk : Nat) L es ep t, SR w h' s.heap.objs.size L es ep t → Gt ks ks.length L → (∀ b o, s.heap.get? b = some o → h'.get? b = some o) → Q (.ref s.heap.objs.size) { s with heap := h', toks := tk }) :
    wpAny (model P w) A (call (.type "set") [.ref l]) Q E s := by
  have sz : its.size = ks.length := by
    have := congrArg List.length hit
    simpa using this
  obtain ⟨c, tl, hmro⟩ := F.called_set.mro
  have hmade := F.called_set.made
  have hsub := F.called_set.sub
  refine wpAny_call (codeAny_of_tree ?_)
  show wpAny _ _ (callAny (.type "set") _) _ _ _
  refine wpAny_pure ⟨Code.quiet_builtin _ (by decide +kernel), codeAny_builtin F.entry_type_call ?_⟩
  rw [Around.under_plain (weight_type_call_type "set" [.ref l] []) rfl]
  have n1 := F.called_set.notType
  have n2 := F.called_set.canCreate
  have n3 := F.typeCall_set_1 (.ref l)
  repeat (any_goals (first | assumption | wp_step))
  refine codeAny_mono (code_set_led1 (.ref l) (E := E) (Q₁ := fun ob s1 => ob = .ref s.heap.objs.size ∧ s1 = { s with heap := s.heap.push (set0 w) }) ⟨rfl, rfl⟩) fun r s1 hr => ?_
  cases r with
  | error e => exact hr
  | ok fl =>
    cases fl with
    | ret ob =>
      obtain ⟨rfl, rfl⟩ := hr
      have at0 : (s.heap.push (set0 w)).get? s.heap.objs.size = some (set0 w) := Heap.get?_push_size _ rfl
      have ty : Shared.TypeIs { s with heap := s.heap.push (set0 w) } (.ref s.heap.objs.size) "set" := ⟨_, at0, rfl⟩
      have i1 := F.called_set.init.lookup
      have i2 := F.called_set.init.bind (.ref s.heap.objs.size)
      repeat (any_goals (first | assumption | wp_step))
      refine codeAny_mono (codeAny_call_builtin (R := wants (fun r s2 => r = .none ∧ ∃ h' tk L es ep t, s2 = { s with heap := h', toks := tk } ∧ SR w h' s.heap.objs.size L es ep t ∧ Gt ks ks.length L ∧ ∀ b o, s.heap.get? b = some o → h'.get? b = some o) E)
        F.called_set.init.plain F.entry_set_init (check_set_init_1 ty ?_)) fun r2 s2 hr2 => ?_
      · obtain ⟨ol, o1, o2, nl, o3⟩ := hl
        obtain ⟨kc, kd, kt, ksl⟩ := ol
        simp only at o2 o3
        subst o2 o3
        have o4 : (s.heap.push (set0 w)).get? l = some { cls := .type "list", dict := kd, data := .seq its nl, slots := ksl } := Heap.get?_push_of_some _ o1
        have f1 := F.sub_list_set
        have f2 := F.sub_list_frozenset
        have f3 : (Value.type "list" == Value.type "dict") = false := by decide
        have l1 : (s.heap.push (set0 w)).IsList l its := ⟨_, o4, rfl, nl, rfl⟩
        unfold Builtin.«set.__init__» noKeywords Builtin.Frozenset.updateFrom
        generalize hPI : pyIter = PI
        wp_walk
        subst hPI
        refine wpAny_pyIter_list l1 ?_
        refine wpAny_bind (wpAny_runValue ?_)
        have ls : l < s.heap.objs.size := Heap.lt_size o1
        have h3 : A.in1.in1.in1.handled = none := by simp [hh]
        have s1 : (s.heap.push (set0 w)).objs.size = s.heap.objs.size + 1 := Heap.size_push ..
        have ne1 : l ≠ (s.heap.push (set0 w)).objs.size := by rw [s1]; exact Nat.ne_of_lt (Nat.lt_succ_of_lt ls)
        have ne2 : s.heap.objs.size ∉ [(s.heap.push (set0 w)).objs.size, l] := by
          rw [s1]
          simp only [List.mem_cons, List.not_mem_nil, or_false, not_or]
          exact ⟨Nat.ne_of_lt (Nat.lt_succ_self _), Nat.ne_of_gt ls⟩
        have val : ∀ (i : Nat) (v : Value), its[i]? = some v → ∃ p, ks[i]? = some p ∧ v = .ref p.1 := fun i v hv => by
          have q : its.toList[i]? = some v := by rw [Array.getElem?_toList]; exact hv
          rw [hit, List.getElem?_map] at q
          obtain ⟨p, q1, q2⟩ := Option.map_eq_some_iff.mp q
          exact ⟨p, q1, q2.symm⟩
        have out : ∀ b, s.heap.objs.size ≤ b → s.heap.get? b = none := fun b hb => by
          cases q : s.heap.get? b with
          | none => rfl
          | some o => exact absurd (Nat.lt_of_lt_of_le (Heap.lt_size q) hb) (Nat.lt_irrefl _)
        refine upd_loop ((Walks.list h3 _ l ne1 its).toS) s.heap.objs.size ne2 ks sz few val s.heap kk (out _ (Nat.le_refl _)) (fun b hb => out b (by
          rw [List.mem_singleton.mp hb, s1]; exact Nat.le_succ _)) (by show A.units + 1 + 1 + 1 + 10 < cLine; omega) ?ff (its.size - 0) 0 _ (by omega) (Nat.zero_le _) (fun s' q => q)
          ⟨⟨_, Heap.get?_push_size _ rfl, rfl, rfl⟩, (l1.push _)⟩ (fun b o e => Heap.get?_push_of_some _ (Heap.get?_push_of_some _ e)) ?gg
        case gg => exact ⟨[], #[], 0, _, sr_new (Heap.get?_push_of_some _ at0), fun p m => (by cases m), fun p m => (by simp at m), Nat.le_refl _⟩
        case ff =>
          intro s' L es ep t hm R1 g k
          obtain ⟨h', g2, d', tk', os'⟩ := s'
          have eg : g2 = s.gens := hm.gens
          have ed : d' = s.drawn := hm.drawn
          have eo : os' = s.os := hm.os
          subst eg ed eo
          show wpAny _ _ _ _ _ _
          refine wpAny_pure ?_
          show wpAny _ _ (ret Value.none) _ _ _
          rw [sz] at g
          exact wpAny_pure ⟨rfl, h', tk', L, es, ep, t, rfl, R1, g, k⟩
      · cases r2 with
        | error e => exact hr2
        | ok fl2 =>
          cases fl2 with
          | ret r =>
            obtain ⟨rfl, h', tk, L, es, ep, t, rfl, R1, g, k⟩ := hr2
            repeat (any_goals (first | assumption | wp_step))
            exact fin _ _ _ _ _ _ R1 g k
          | _ => exact hr2.elim
    | _ => exact hr.elim
end
end Z

namespace Z
open PySem L2 PyProof.Rows

/-! ### sorted lists of alike data are the same if they have the same items -/
mutual
theorem tok_inj : ∀ (x y : PyData) (l m : List (Int ⊕ List Nat)), PySem.W.alike x y = true → PySem.W.keyToks x ++ l = PySem.W.keyToks y ++ m → x = y ∧ l = m
  | .none, .none, l, m, _, h => ⟨rfl, by simpa [PySem.W.keyToks] using h⟩
  | .bool a, .bool b, l, m, _, h => by
    cases a <;> cases b <;> simp [PySem.W.keyToks] at h ⊢ <;> exact h
  | .int a, .int b, l, m, _, h => by
    simp [PySem.W.keyToks] at h
    exact ⟨by rw [h.1], h.2⟩
  | .str a, .str b, l, m, _, h => by
    simp only [PySem.W.keyToks, List.singleton_append, List.cons.injEq, Sum.inr.injEq] at h
    exact ⟨by rw [PySem.W.str_of_cps h.1], h.2⟩
  | .list xs, .list ys, l, m, al, h => by
    have := toks_inj xs ys l m (by simpa [PySem.W.alike] using al) (by simpa [PySem.W.keyToks] using h)
    exact ⟨by rw [this.1], this.2⟩
  | .tuple xs, .tuple ys, l, m, al, h => by
    have := toks_inj xs ys l m (by simpa [PySem.W.alike] using al) (by simpa [PySem.W.keyToks] using h)
    exact ⟨by rw [this.1], this.2⟩
  | .none, .bool _, _, _, al, _ | .none, .int _, _, _, al, _ | .none, .str _, _, _, al, _ | .none, .list _, _, _, al, _ | .none, .tuple _, _, _, al, _ | .none, .dict _, _, _, al, _
  | .bool _, .none, _, _, al, _ | .bool _, .int _, _, _, al, _ | .bool _, .str _, _, _, al, _ | .bool _, .list _, _, _, al, _ | .bool _, .tuple _, _, _, al, _ | .bool _, .dict _, _, _, al, _
  | .int _, .none, _, _, al, _ | .int _, .bool _, _, _, al, _ | .int _, .str _, _, _, al, _ | .int _, .list _, _, _, al, _ | .int _, .tuple _, _, _, al, _ | .int _, .dict _, _, _, al, _
  | .str _, .none, _, _, al, _ | .str _, .bool _, _, _, al, _ | .str _, .int _, _, _, al, _ | .str _, .list _, _, _, al, _ | .str _, .tuple _, _, _, al, _ | .str _, .dict _, _, _, al, _
  | .list _, .none, _, _, al, _ | .list _, .bool _, _, _, al, _ | .list _, .int _, _, _, al, _ | .list _, .str _, _, _, al, _ | .list _, .tuple _, _, _, al, _ | .list _, .dict _, _, _, al, _
  | .tuple _, .none, _, _, al, _ | .tuple _, .bool _, _, _, al, _ | .tuple _, .int _, _, _, al, _ | .tuple _, .str _, _, _, al, _ | .tuple _, .list _, _, _, al, _ | .tuple _, .dict _, _, _, al, _
  | .dict _, .none, _, _, al, _ | .dict _, .bool _, _, _, al, _ | .dict _, .int _, _, _, al, _ | .dict _, .str _, _, _, al, _ | .dict _, .list _, _, _, al, _ | .dict _, .tuple _, _, _, al, _ | .dict _, .dict _, _, _, al, _ => by simp [PySem.W.alike] at al
theorem toks_inj : ∀ (xs ys : List PyData) (l m : List (Int ⊕ List Nat)), PySem.W.alikeAll xs ys = true → PySem.W.keyToksAll xs ++ l = PySem.W.keyToksAll ys ++ m → xs = ys ∧ l = m
  | [], [], l, m, _, h => ⟨rfl, by simpa [PySem.W.keyToksAll] using h⟩
  | [], _ :: _, l, m, _, h => by simp [PySem.W.keyToksAll] at h
  | _ :: _, [], l, m, _, h => by simp [PySem.W.keyToksAll] at h
  | x :: xs, y :: ys, l, m, al, h => by
    obtain ⟨a1, a2⟩ := PySem.W.alike_all_cons al
    simp only [PySem.W.keyToksAll, List.cons_append, List.cons.injEq, true_and, List.append_assoc] at h
    obtain ⟨e1, e2⟩ := tok_inj x y _ _ a1 h
    obtain ⟨e3, e4⟩ := toks_inj xs ys l m a2 e2
    exact ⟨by rw [e1, e3], e4⟩
end
theorem lt_total {x y : PyData} (al : PySem.W.alike x y = true) (h1 : PySem.W.dataLt x y = false) (h2 : PySem.W.dataLt y x = false) : x = y :=
  (tok_inj x y [] [] al (by rw [List.append_nil, List.append_nil]; exact PyProof.Rows.lex_total _ _ h1 h2)).1
theorem le_iff {x y : PyData} : PySem.W.dataLe false id x y = true ↔ PySem.W.dataLt y x = false := by
  show (!PySem.W.dataLt y x) = true ↔ _
  cases PySem.W.dataLt y x <;> simp
theorem srt_pw (l : List PyData) : (srt l).Pairwise fun a b => PySem.W.dataLe false id a b = true := by
  refine List.pairwise_mergeSort (fun a b c h1 h2 => ?_) (fun a b => ?_) l
  · rw [le_iff] at *
    cases q : PySem.W.dataLt c a with
    | false => rfl
    | true =>
      rcases PyProof.Rows.lex_negTrans _ (PySem.W.keyToks b) _ q with z | z
      · exact absurd (show PySem.W.dataLt c b = true from z) (by rw [h2]; decide)
      · exact absurd (show PySem.W.dataLt b a = true from z) (by rw [h1]; decide)
  · rw [Bool.or_eq_true, le_iff, le_iff]
    cases q : PySem.W.dataLt b a with
    | false => exact .inl rfl
    | true =>
      right
      cases q2 : PySem.W.dataLt a b with
      | false => rfl
      | true =>
        have := PyProof.Rows.lex_trans _ _ _ q q2
        rw [PyProof.Rows.lex_irrefl] at this
        cases this
theorem srt_eq {l m : List PyData} (al : PySem.W.AllAlike l) (h : l.Perm m) : srt l = srt m := by
  refine List.Perm.eq_of_pairwise (le := fun a b => PySem.W.dataLe false id a b = true) (fun a b ha hb h1 h2 => ?_) (srt_pw l) (srt_pw m) ((srt_perm l).trans (h.trans (srt_perm m).symm))
  have ha' : a ∈ l := (srt_perm l).mem_iff.mp ha
  have hb' : b ∈ l := h.mem_iff.mpr ((srt_perm m).mem_iff.mp hb)
  exact lt_total (al a ha' b hb') (le_iff.mp h2) (le_iff.mp h1)
/-- each once -/
noncomputable def dd : List PyData → List PyData
  | [] => []
  | d :: ds => if d ∈ ds then dd ds else d :: dd ds
theorem dd_mem {x : PyData} : ∀ {l : List PyData}, x ∈ dd l ↔ x ∈ l
  | [] => Iff.rfl
  | d :: ds => by
    unfold dd
    by_cases h : d ∈ ds
    · rw [if_pos h, dd_mem, List.mem_cons]
      exact ⟨.inr, fun z => z.elim (fun e => e ▸ h) id⟩
    · rw [if_neg h, List.mem_cons, List.mem_cons, dd_mem]
theorem dd_nd : ∀ l : List PyData, (dd l).Nodup
  | [] => List.nodup_nil
  | d :: ds => by
    unfold dd
    by_cases h : d ∈ ds
    · rw [if_pos h]; exact dd_nd ds
    · rw [if_neg h]
      exact List.nodup_cons.mpr ⟨fun z => h (dd_mem.mp z), dd_nd ds⟩
theorem dd_perm {l m : List PyData} (nd : m.Nodup) (h : ∀ x, x ∈ m ↔ x ∈ l) : m.Perm (dd l) :=
  (List.perm_ext_iff_of_nodup nd (dd_nd l)).mpr fun x => (h x).trans dd_mem.symm
end Z

namespace Z
open PySem L2 PyProof.Rows

/-! ### sets as tracked things -/
def SxO (w : World) (a : Addr) (L : List SEn) : HO := .ext fun h => ∃ es ep t, (∃ o, h.get? a = some o ∧ o.ExactSet ∧ o.data = .set es ep t) ∧ es.toList = rowsD w L ∧ TabOk t (hsD w L) ∧ (L.map (·.2)).Nodup ∧ (w.params.followText "set-order" = true ∨ t.led = true) ∧ L.length * 5 < t.mask * 3 ∧ L.length < 64
theorem sx_of {P : Program} {w : World} {H : Hp} {h : Heap} {a : Addr} {L : List SEn} (ok : HOk P w H h) (e : H a = some (SxO w a L)) (kk : ∀ p ∈ L, KH h p.1 p.2) : ∃ es ep t, SR w h a L es ep t := by
  obtain ⟨es, ep, t, h1, h2, h3, h4, h5, h6, h7⟩ := (ok a _ e).1
  exact ⟨es, ep, t, h1, h2, h3, h4, kk, h5, h6, h7⟩
theorem sx_new {P : Program} {w : World} {H : Hp} {h : Heap} {a : Addr} {L : List SEn} {es : Array (Int × Value)} {ep : Nat} {t : SetTable} (R : SR w h a L es ep t) : ObjOk P w H h a (SxO w a L) :=
  ⟨⟨es, ep, t, R.ob, R.rows, R.tab, R.nd, R.led, R.room, R.few⟩, let ⟨o, e, _⟩ := R.ob; ⟨o, e⟩, fun g1 g2 ⟨es, ep, t, ⟨o, e, r⟩, q⟩ k => ⟨es, ep, t, ⟨o, k o e, r⟩, q⟩⟩
section
variable {X : Cx} {pins : List (Addr × Obj)} {σ : L2.St} {H : Hp} {s : Shared}
theorem kh_of (I : Inv X pins σ H s) {a : Addr} {d : PyData} (k : KyD X.K H a d) : KH s.heap a d := ⟨dp_at I d _ _ k.2.1 k.1 rfl, k.2.2⟩
theorem vals_back' : ∀ {ks : List SEn} {us : List Value}, Vals (ks.map fun p => V.ref p.1) us → us = ks.map fun p => Value.ref p.1
  | [], _, .nil => rfl
  | p :: ks, _, .cons r t => by cases r; rw [vals_back' t]; rfl
theorem vals_fore : ∀ (ks : List SEn), Vals (ks.map fun p => V.ref p.1) (ks.map fun p => Value.ref p.1)
  | [] => .nil
  | p :: ks => .cons rfl (vals_fore ks)
def rSetD (K : PySem.W.Frag) (w : World) : List V → Hp → VK → Prop := fun vs H Q => ∃ (l : Addr) (ks : List SEn), vs = [V.ref l] ∧ SqL K H l (ks.map fun p : SEn => V.ref p.1) ∧ (∀ p ∈ ks, KyD K H p.1 p.2) ∧ ks.length < 64 ∧
  ∀ (a : Addr) (L : List SEn), H a = none → (∀ p ∈ L, p ∈ ks) → (∀ p ∈ ks, p.2 ∈ L.map (·.2)) → (L.map (·.2)).Nodup → Q (.ref a) (upd H a (SxO w a L))
theorem cr_setD (hc : X.calm = true) (hu : X.A.units + 20 < cLine) : CallR X (.type "set") (rSetD X.K X.w) := by
  intro pins s σ H vs us Q I r h
  obtain ⟨l, ks, rfl, hl, hk, hf, q⟩ := h
  rw [Vals.ref1 r]
  obtain ⟨its, rv, pl, hz⟩ := I.list hl
  refine call_setD (P := X.prog) (w := X.w) ks (I.ok.hd hc) pl.isList (by simpa using vals_back' rv) (fun p hp => kh_of I (hk p hp)) hf hu fun h' tk L es ep t R g k => ?_
  have hn := I.hok.fresh (Nat.le_refl s.heap.objs.size)
  refine ⟨.ref s.heap.objs.size, upd H s.heap.objs.size (SxO X.w s.heap.objs.size L), I.laid (t' := tk) k (Nat.le_refl _) (sx_new R), rfl, q _ L hn (fun p hp => List.mem_of_mem_take (g.1 p hp)) (fun p hp => g.2.1 p (by rw [List.take_length]; exact hp)) R.nd⟩
theorem perm_back {α β : Type} {f : α → β} {l m : List β} (h : l.Perm m) : ∀ {L : List α}, m = L.map f → ∃ M : List α, M.Perm L ∧ l = M.map f := by
  induction h with
  | nil => intro L e; exact ⟨L, .refl _, e⟩
  | cons x p ih =>
    intro L e
    cases L with
    | nil => cases e
    | cons y L =>
      injection e with e1 e2
      obtain ⟨M, p1, e3⟩ := ih e2
      exact ⟨y :: M, p1.cons y, by rw [e1, e3]; rfl⟩
  | swap x y l =>
    intro L e
    match L, e with
    | u :: v :: L, e =>
      injection e with e1 e2
      injection e2 with e2 e3
      exact ⟨v :: u :: L, List.Perm.swap _ _ _, by rw [e1, e2, e3]; rfl⟩
  | trans p q ih1 ih2 =>
    intro L e
    obtain ⟨M, p1, e1⟩ := ih2 e
    obtain ⟨N, p2, e2⟩ := ih1 e1
    exact ⟨N, p2.trans p1, e2⟩
theorem reads_key {h : Heap} : ∀ (d : PyData) (v : Value), isAt h d v → Reads h v d []
  | .int i, _, x => by obtain ⟨t, rfl⟩ := x; exact .int i t
  | .str i, _, x => by obtain ⟨t, rfl⟩ := x; exact .str i t
  | .tuple ds, _, x => by
    obtain ⟨a, rfl, o, its, n, h1, h2, h3, h4⟩ := x
    exact .tuple h1 h2 h3 (readsAll_key ds _ h4)
  | .none, _, x => x.elim
  | .bool _, _, x => x.elim
  | .list _, _, x => x.elim
  | .dict _, _, x => x.elim
where
  readsAll_key {h : Heap} : ∀ (ds : List PyData) (vs : List Value), isAts h ds vs → ReadsAll h vs ds []
  | [], [], _ => .nil
  | [], _ :: _, x => x.elim
  | _ :: _, [], x => x.elim
  | d :: ds, v :: vs, x => by
    have := ReadsAll.cons (reads_key d v x.1) (readsAll_key ds vs x.2)
    simpa using this
theorem each_self {R : Value → SEn → Prop} : ∀ (L : List SEn), (∀ p ∈ L, R (Value.ref p.1) p) → PySem.W.EachIs R (L.map fun p => Value.ref p.1) L
  | [], _ => .nil
  | p :: L, h => .cons (h p List.mem_cons_self) (each_self L fun q hq => h q (List.mem_cons_of_mem _ hq))
theorem each_ref : ∀ {us : List Value} {L : List SEn}, PySem.W.EachIs (fun u (p : SEn) => u = .ref p.1) us L → us = L.map fun p => Value.ref p.1
  | _, _, .nil => rfl
  | _, _, .cons h t => by rw [h, each_ref t]; rfl
def rSortSet (K : PySem.W.Frag) (w : World) (u : Nat) : List V → Hp → VK → Prop := fun vs H Q => ∃ (a : Addr) (L : List SEn), vs = [V.ref a] ∧ H a = some (SxO w a L) ∧ (∀ p ∈ L, KyD K H p.1 p.2) ∧ PySem.W.AllAlike (L.map (·.2)) ∧ SrtK (L.map (·.2)) ∧ (∀ p ∈ L, u + 2 + p.2.depth < cLine) ∧
  ∀ (p : Addr) (M : List SEn), M.Perm L → M.map (·.2) = srt (L.map (·.2)) → H p = none → Q (.ref p) (upd H p (.lst (M.map fun q => V.ref q.1)))
theorem cr_sortSet (hc : X.calm = true) : CallR X (.builtin "sorted") (rSortSet X.K X.w X.A.units) := by
  intro pins s σ H vs us Q I r h
  obtain ⟨a, L, rfl, ha, hk, al, so, hu, q⟩ := h
  have kk : ∀ p ∈ L, KH s.heap p.1 p.2 := fun p hp => kh_of I (hk p hp)
  obtain ⟨es, ep, t, R⟩ := sx_of I.hok ha kk
  rw [Vals.ref1 r]
  obtain ⟨o, q1, q2, q3⟩ := R.ob
  have few := R.few
  have ln := rowsD_len R.rows
  refine Calls.call_function_entry kind_sorted plain_sorted entry_sorted (args_sorted1 _) ?_
  unfold Builtin.«sorted»
  refine wpAny_bind (m := checkCount "sorted" 1 1 _) (wpAny_pure ?_)
  refine wpAny_bind (collect_set (A := X.A.in1) (I.ok.hd hc) ⟨o, q1, q2.1, q3⟩ R.fit (by unfold scanBound; omega) R.tab.ris R.led fun s1 out k1 hz g1 o1 pm => ?_)
  have e0 : es.toList.map (·.2) = L.map fun p => Value.ref p.1 := by rw [R.rows]; simp [rowsD]
  obtain ⟨M, pM, eM⟩ := perm_back pm e0
  subst eM
  have lM := pM.length_eq
  refine wpAny_bind (wpAny_newList ?_ (by rw [List.length_map, sizeLine_eq]; omega))
  have at0 : (s1.heap.push (seqObj "list" (M.map fun p => Value.ref p.1).toArray 0)).get? s1.heap.objs.size = some (seqObj "list" (M.map fun p => Value.ref p.1).toArray 0) := Heap.get?_push_size _ rfl
  have k2 : ∀ p ∈ M, KH (s1.heap.push (seqObj "list" (M.map fun p => Value.ref p.1).toArray 0)) p.1 p.2 := fun p hp => (kk p (pM.mem_iff.mp hp)).old fun b u e => Heap.get?_push_of_some _ (k1 b u e)
  have al2 : PySem.W.AllAlike (M.map (·.2)) := fun d hd d' hd' => al d ((pM.map _).mem_iff.mp hd) d' ((pM.map _).mem_iff.mp hd')
  have so2 : SrtK (M.map (·.2)) := so.sub fun d hd => (pM.map _).mem_iff.mp hd
  refine wpAny_bind (wpAny_holding (listSortX (s := { s1 with heap := s1.heap.push (seqObj "list" (M.map fun p => Value.ref p.1).toArray 0) }) (R := fun u (p : SEn) => u = .ref p.1) (enc := fun p : SEn => p.2) at0 (each_self M fun _ _ => rfl)
    (each_self M fun p hp => ⟨[], reads_key _ _ (k2 p hp).1, by simp⟩) al2 so2 (by rw [sizeLine_eq]; omega) (fun p hp => by have := hu p (pM.mem_iff.mp hp); show X.A.units + 1 + 1 + p.2.depth < cLine; omega) fun out ho eo => ?_))
  have e1 := each_ref eo
  subst e1
  obtain ⟨c, hcc⟩ := sortedHeap_at (vs := M.map fun p => Value.ref p.1) (out := ((M.mergeSort (PySem.W.dataLe false fun p : SEn => p.2)).map fun p => Value.ref p.1).toArray) at0
  have pN : (M.mergeSort (PySem.W.dataLe false fun p : SEn => p.2)).Perm L := (List.mergeSort_perm _ _).trans pM
  have srtN : (M.mergeSort (PySem.W.dataLe false fun p : SEn => p.2)).map (·.2) = srt (L.map (·.2)) := by
    have h3 := List.map_mergeSort (r := PySem.W.dataLe false fun p : SEn => p.2) (s := PySem.W.dataLe false id) (f := fun p : SEn => p.2) (l := M) (fun _ _ _ _ => rfl)
    rw [h3]
    exact srt_eq al2 (pM.map _)
  generalize M.mergeSort (PySem.W.dataLe false fun p : SEn => p.2) = N at pN srtN hcc ⊢
  have old : ∀ b u, s.heap.get? b = some u → (sortedHeap (s1.heap.push (seqObj "list" (M.map fun p => Value.ref p.1).toArray 0)) s1.heap.objs.size (M.map fun p => Value.ref p.1) (N.map fun p => Value.ref p.1).toArray).get? b = some u := fun b u e => by
    have e2 := k1 b u e
    have lt := Heap.lt_size e2
    rw [sortedHeap_old (Nat.ne_of_lt lt) (by rw [size_push']; exact Nat.lt_succ_of_lt lt)]
    exact Heap.get?_push_of_some _ e2
  have hn : H s1.heap.objs.size = none := I.hok.fresh hz
  have lN : (N.map fun q => V.ref q.1).length ≤ sizeLine := by rw [List.length_map, pN.length_eq, sizeLine_eq]; omega
  refine wpAny_pure ⟨_, rfl, ?_⟩
  have J : Inv X pins σ (upd H s1.heap.objs.size (.lst (N.map fun q => V.ref q.1))) { s with heap := sortedHeap (s1.heap.push (seqObj "list" (M.map fun p => Value.ref p.1).toArray 0)) s1.heap.objs.size (M.map fun p => Value.ref p.1) (N.map fun p => Value.ref p.1).toArray, gens := s1.gens, drawn := s1.drawn, toks := s1.toks } :=
    I.call (ch := []) (Un.laid old hz hn) (I.hok.laid old hz ⟨lN, _, c, vals_fore N, hcc⟩) (by rw [g1]; exact I.bare) (fun _ z => nomatch z)
  have e : ({ s1 with heap := sortedHeap (s1.heap.push (seqObj "list" (M.map fun p => Value.ref p.1).toArray 0)) s1.heap.objs.size (M.map fun p => Value.ref p.1) (N.map fun p => Value.ref p.1).toArray } : Shared) = { s with heap := sortedHeap (s1.heap.push (seqObj "list" (M.map fun p => Value.ref p.1).toArray 0)) s1.heap.objs.size (M.map fun p => Value.ref p.1) (N.map fun p => Value.ref p.1).toArray, gens := s1.gens, drawn := s1.drawn, toks := s1.toks } := by
    cases s1
    cases s
    cases o1
    rfl
  show EP _ _ _ _ _ { s1 with heap := _ }
  rw [e]
  exact ⟨.ref _, _, J, rfl, q _ N pN srtN hn⟩
end
end Z

namespace Z
open PySem L2 PyProof.Rows

/-! ### the tape of a law -/
structure Tp where
  cells : List Int
  n : Int
  x : Int
  y : Int
def OTp (b : Tp) : Own where
  holds := fun K F H v fp => ∃ p c, v = .ref p ∧ fp = [p, c] ∧ p ≠ c ∧ H p = some (.lst [.ref c, .int b.n, .int b.x, .int b.y]) ∧ H c = some (.lst (b.cells.map .int))
  stay := fun ⟨p, c, e1, e2, n, e3, e4⟩ e k => ⟨p, c, e1, e2, n, k p (by rw [e2]; simp) _ e3, k c (by rw [e2]; simp) _ e4⟩
theorem otp_inj (K : PySem.W.Frag) {b b' : Tp} (h : OTp b = OTp b') : b = b' := by
  have h1 : (OTp b).holds K (fun _ => none) (fun a => if a = 0 then some (.lst [.ref 1, .int b.n, .int b.x, .int b.y]) else some (.lst (b.cells.map .int))) (.ref 0) [0, 1] := ⟨0, 1, rfl, rfl, by decide, rfl, rfl⟩
  rw [h] at h1
  obtain ⟨p, c, e1, e2, n, e3, e4⟩ := h1
  cases e1
  cases e2
  simp at e3 e4
  obtain ⟨e3, e5, e6⟩ := e3
  have e7 : b.cells = b'.cells := (List.map_inj_right (fun x y e => by cases e; rfl)).mp e4
  obtain ⟨c, i, x, y⟩ := b
  obtain ⟨c', i', x', y'⟩ := b'
  simp at e3 e5 e6 e7
  rw [e7, e3, e5, e6]
section
variable {X : Cx} {e a b c : Expr} {es : List Expr} {st : Stmt} {rest body : List Stmt} {s s' s1 s2 s3 : S} {r : SD} {rs : List SD} {pos p : Pos} {P : Po} {x y : PyData} {i j : Int} {o n : Nat} {O O' : Own}
theorem put_oa {a : Addr} {vs : List V} {z : V} {k : Nat} (h : ixN vs.length i = some k) : PutO (OA a vs) i z (OA a (vs.set k z)) := fun K F H v fp ⟨e1, e2, e3⟩ => ⟨a, vs, k, e1, by rw [e2]; simp, e3, h, e1, e2, upd_same⟩
/-- the tape in two -/
theorem zss_openT {b : Tp} (hb : s.R[o]? = some (OTp b)) (k : ∀ p c, ZSs X rest ⟨s.e, s.R.set o (OA p [.ref c, .int b.n, .int b.x, .int b.y]) ++ [OA c (b.cells.map .int)]⟩ P) : ZSs X rest s P :=
  ⟨fun pins sh σ H D I ⟨t, T, ρ, e1, hb0, g, q⟩ => by
    subst e1
    obtain ⟨v, e2, ok, bk⟩ := g.obj hb
    obtain ⟨F, L, e1, g1⟩ := ok
    cases L with
    | nil => simp at e1
    | cons z L =>
      obtain ⟨z1, fp⟩ := z
      simp at e1
      obtain ⟨e3, e4⟩ := e1
      subst e3
      obtain ⟨u, e5, p, c, h1, h2, h3, h4, h5⟩ := g1.ent _ List.mem_cons_self
      have e5' : v = u := Option.some.inj e5
      subst e5'
      subst h1
      have h2' : fp = [p, c] := h2
      subst h2'
      have nd := g1.nd
      unfold fpsOf at nd
      rw [List.flatMap_cons] at nd
      obtain ⟨n1, n2, n3⟩ := List.nodup_append.mp nd
      have own := g1.own
      unfold fpsOf at own
      rw [List.flatMap_cons] at own
      have a1 := g1.tail.oCons (v := .ref c) (P := OA c (b.cells.map .int)) (fp := [c]) ⟨rfl, rfl, h5⟩ (by simp) (fun a ha hx => n3 a (by simp at ha; simp [ha]) a hx rfl) fun a ha => own a (by simp at ha; simp [ha])
      have a2 := a1.oCons (v := .ref p) (P := OA p [.ref c, .int b.n, .int b.x, .int b.y]) (fp := [p]) ⟨rfl, rfl, h4⟩ (by simp) (fun a ha hx => by
        unfold fpsOf at hx
        rw [List.flatMap_cons] at hx
        rcases List.mem_append.mp hx with hx | hx
        · simp at ha hx; subst ha hx; exact h3 rfl
        · exact n3 a (by simp at ha; simp [ha]) a hx rfl) fun a ha => own a (by simp at ha; simp [ha])
      have a3 : OK X.K ((IT.o (OA p [.ref c, .int b.n, .int b.x, .int b.y]), some (V.ref p)) :: (((IT.o (OA c (b.cells.map .int)), some (V.ref c)) :: T) ++ (ES t.e σ ++ (RS t.R ρ).set o (IT.un, some (V.ref p))))) H := ⟨F, _, by rw [List.map_cons, List.map_cons, e4]; rfl, a2⟩
      have a4 := ZE.frz.back2 (T2 := (IT.o (OA c (b.cells.map .int)), some (V.ref c)) :: T) g hb e2 a3
      have a5 := Sat.push a4.ok a4.le a4.lr a4.al
      refine (k p c).run pins sh σ H D I ⟨_, T, ρ ++ [.ref c], rfl, by simp; omega, a5, ?_⟩
      rw [take_pre (List.prefix_append _ _) hb0]
      exact q⟩
/-- .. and in one again -/
theorem zss_closeT {b : Tp} {p c : Addr} {e' : List SD} {R : List Own} (hs : s = ⟨s.e, R ++ [OA c (b.cells.map .int)]⟩) (ho : R[o]? = some (OA p [.ref c, .int b.n, .int b.x, .int b.y])) (hb : P.b ≤ R.length) (w : wkE s.e e') (lw : low R.length e') (k : ZSs X rest ⟨e', R.set o (OTp b)⟩ P) : ZSs X rest s P :=
  ⟨fun pins sh σ H D I ⟨t, T, ρ, e1, hb0, g, q⟩ => by
    subst e1
    rw [hs] at g
    have lr := g.lr
    simp at lr
    obtain ⟨ρ0, v0, hρ⟩ : ∃ ρ0 v0, ρ = ρ0 ++ [v0] := ⟨ρ.take R.length, ρ[R.length]'(by omega), by
      conv => lhs; rw [← List.take_append_drop R.length ρ]
      congr 1
      rw [List.drop_eq_getElem_cons (by omega), List.drop_eq_nil_of_le (by omega)]⟩
    subst hρ
    have lr0 : R.length = ρ0.length := by simpa using lr
    have q1 : RS (R ++ [OA c (b.cells.map .int)]) (ρ0 ++ [v0]) = RS R ρ0 ++ [(IT.o (OA c (b.cells.map .int)), some v0)] := by
      unfold RS
      rw [List.zipWith_append lr0]
      rfl
    have ok := g.ok
    rw [show (⟨t.e, R ++ [OA c (b.cells.map .int)]⟩ : S).R = R ++ [OA c (b.cells.map .int)] from rfl, q1] at ok
    have ok1 : OK X.K (ES t.e σ ++ (((IT.o (OA c (b.cells.map .int)), some v0) :: T) ++ RS R ρ0)) H := by
      refine ok.perm ?_
      show (T ++ (ES t.e σ ++ (RS R ρ0 ++ [(IT.o (OA c (b.cells.map .int)), some v0)]))).Perm (ES t.e σ ++ ([(IT.o (OA c (b.cells.map .int)), some v0)] ++ T ++ RS R ρ0))
      simp only [List.append_assoc]
      refine (cas _ _ _).trans (List.Perm.append_left _ ?_)
      refine List.Perm.trans ?_ List.perm_append_comm
      rw [List.append_assoc]
    have g0 : Sat X.K ⟨e', R⟩ σ ρ0 ((IT.o (OA c (b.cells.map .int)), some v0) :: T) H := by
      refine ⟨(wkE_len w).trans g.le, lr0, fun i j he => ?_, ?_⟩
      · obtain ⟨a, ha, hor⟩ := wkE_get w he
        rcases hor with e | e
        · subst e
          obtain ⟨v, h1, h2⟩ := g.al i j ha
          exact ⟨v, h1, by rw [List.getElem?_append_left (by rw [← lr0]; exact low_get lw he)] at h2; exact h2⟩
        · cases e
      · refine (ok_es (l := ((IT.o (OA c (b.cells.map .int)), some v0) :: T) ++ RS R ρ0) w ok1).perm ?_
        exact cas _ _ _
    obtain ⟨v, e2, ok2, bk⟩ := g0.obj ho
    obtain ⟨F, L, e1, g1⟩ := ok2
    match L, e1, g1 with
    | (z1, fp) :: (z2, fp2) :: L, e1, g1 =>
      simp at e1
      obtain ⟨e3, e5, e4⟩ := e1
      subst e3 e5
      obtain ⟨u, e6, h1, h2, h3⟩ := g1.ent _ List.mem_cons_self
      obtain ⟨u2, e7, k1, k2, k3⟩ := g1.ent _ (List.mem_cons_of_mem _ List.mem_cons_self)
      have e6' : v = u := Option.some.inj e6
      subst e6'
      have e7' : v0 = u2 := Option.some.inj e7
      subst e7'
      have h2' : fp = [p] := h2
      have k2' : fp2 = [c] := k2
      subst h2' k2'
      have nd := g1.nd
      unfold fpsOf at nd
      rw [List.flatMap_cons, List.flatMap_cons] at nd
      have own := g1.own
      unfold fpsOf at own
      rw [List.flatMap_cons, List.flatMap_cons] at own
      obtain ⟨n1, n2, n3⟩ := List.nodup_append.mp nd
      obtain ⟨m1, m2, m3⟩ := List.nodup_append.mp n2
      have pc : p ≠ c := fun e => n3 p (by simp) c (by simp) e
      have a1 := g1.tail.tail.oCons (v := v) (P := OTp b) (fp := [p, c]) ⟨p, c, h1, rfl, pc, h3, k3⟩ (by simp [pc]) (fun a ha hx => by
        simp at ha
        rcases ha with rfl | rfl
        · exact n3 a (by simp) a (List.mem_append_right _ hx) rfl
        · exact m3 a (by simp) a hx rfl) fun a ha => own a (by
        simp at ha
        rcases ha with rfl | rfl <;> simp)
      have a2 : OK X.K ((IT.o (OTp b), some v) :: (T ++ (ES e' σ ++ (RS R ρ0).set o (IT.un, some v)))) H := ⟨F, _, by rw [List.map_cons, e4], a1⟩
      have a3 := ZE.frz.back2 (T2 := T) g0 ho e2 a2
      refine k.run pins sh σ H D I ⟨_, T, ρ0, rfl, by omega, a3, ?_⟩
      rw [take_pre (List.prefix_append ρ0 [v0]) (by omega)] at q
      exact q⟩
end
/-! the numbers -/
def mixT (n : Int) : Int :=
  let a := (n * 6364136223846793005 + 1442695040888963407) % 18446744073709551616
  (a * a / 4294967296 + a * 69621) % 18446744073709551557
def loadT (b : Tp) : Tp := match b.cells[b.n.toNat]? with
  | some c => ⟨b.cells, b.n + 1, if decide (1000000000000000000 ≤ cellB c) = true then cellB c else mixT (mixT (cellB c) + (b.n + 1)), mixT (b.y + cellB c)⟩
  | none => ⟨b.cells, b.n, mixT (b.y + 1), mixT (b.y + 1)⟩
def takeT (b : Tp) (m : Int) : Int × Tp :=
  let b' : Tp := if b.x < m then loadT b else b
  (b'.x % m, ⟨b'.cells, b'.n, b'.x / m, b'.y⟩)
structure TOK (b : Tp) : Prop where
  n : 0 ≤ b.n
  x : 0 ≤ b.x
  y : 0 ≤ b.y
  l : b.cells.length ≤ 63
theorem mix_pos (n : Int) : 0 ≤ mixT n := by
  unfold mixT
  exact Int.emod_nonneg _ (by decide)
theorem load_okT {b : Tp} (h : TOK b) : TOK (loadT b) := by
  obtain ⟨h1, h2, h3, h4⟩ := h
  unfold loadT
  split
  · rename_i c _
    have hp := cell_pos c
    exact ⟨by show 0 ≤ b.n + 1; omega, by show 0 ≤ (if _ then _ else _ : Int); split; exact hp; exact mix_pos _, mix_pos _, h4⟩
  · exact ⟨h1, mix_pos _, mix_pos _, h4⟩
theorem take_ex {b : Tp} {m : Int} (h : TOK b) (hm : 0 < m) : ∃ d b', takeT b m = (d, b') ∧ 0 ≤ d ∧ d < m ∧ TOK b' := by
  refine ⟨_, _, rfl, Int.emod_nonneg _ (by omega), Int.emod_lt_of_pos _ hm, ?_⟩
  split
  · obtain ⟨h1, h2, h3, h4⟩ := load_okT h
    exact ⟨h1, Int.ediv_nonneg h2 (by omega), h3, h4⟩
  · exact ⟨h.n, Int.ediv_nonneg h.x (by omega), h.y, h.l⟩
def aTk : Tp × Int → List IT := fun z => [.o (OTp z.1), .d (.int z.2)]
def okTk : Tp × Int → Prop := fun z => TOK z.1 ∧ CDivW 0 z.2
abbrev rTk : Tp × Int → IT := fun z => .d (.int (takeT z.1 z.2).1)
abbrev oTk : Tp × Int → List Own := fun z => [OTp (takeT z.1 z.2).2]
def aI1 : Int → List IT := fun n => [.d (.int n)]
def tape0 (ns : List Int) : Tp := ⟨ns, 0, 0, 1 + (ns.length : Nat)⟩
theorem tape0_ok {ns : List Int} (h : ns.length ≤ 63) : TOK (tape0 ns) := ⟨Int.le_refl _, Int.le_refl _, by show (0 : Int) ≤ 1 + _; omega, h⟩
theorem tk_ok {b : Tp} {m : Int} (h : TOK b) (hm : 0 < m) (h2 : m.natAbs < 2 ^ 200) : okTk (b, m) := ⟨h, hm, PySem.Flt.log2_lt_of (by decide) (Nat.lt_of_lt_of_le h2 (Nat.pow_le_pow_right (by decide) (by decide)))⟩
section
variable {X : Cx} {x1 x2 e : Expr} {s s1 s' : S} {p pos : Pos} {o k j : Nat} {b b' : Tp} {m d : Int}
theorem ze_take (c : Cal X.prog X.w X.K X.mg X.base k "_law_take" (preOf aTk okTk) (relOf aTk okTk rTk oTk)) (e : takeT b m = (d, b')) (ha : ZA X [x1, x2] s [.r o, .d (.int m)] s1) (ho : s1.R[o]? = some (OTp b)) (hb : TOK b) (hr : Room j X.A) (hm : 0 < m := by decide) (h2 : m.natAbs < 2 ^ 200 := by decide) (hk : k ≤ j := by omega)
    (h : Cl X "_law_take" x1 [x2] pos := by exact ⟨rfl, rfl, rfl⟩) : ZE X (.Call (.Name "_law_take" p) [x1, x2] [] pos) s (.d (.int d)) ⟨s1.e, s1.R.set o (OTp b')⟩ := by
  have := ze_callS1 (p := p) (b, m) c ha (tk_ok hb hm h2) ho rfl rfl hr hk rfl rfl h (by decide)
  rw [e] at this
  exact this
/-- [cells, 0, 0, n]: the tape -/
theorem ze_tapeD {es : List Expr} {ns : List Int} {i1 i2 i3 : Int} (h : ZA X es s [.r o, .d (.int i1), .d (.int i2), .d (.int i3)] s1) (ho : s1.R[o]? = some (OL (ns.map .int))) : ZE X (.List es pos) s (.r s1.R.length) ⟨s1.e, s1.R.set o gone ++ [OTp ⟨ns, i1, i2, i3⟩]⟩ := by
  refine PE.imp (pe_lst h) fun σ H Q ⟨T, ρ, g, q⟩ => ⟨T, ρ, g, fun vs ρ1 H1 p1 vrs g1 => ?_⟩
  obtain ⟨h1, h2⟩ := vrs
  match vs, h1 with
  | [v0, v1, v2, v3], _ =>
    have vr0 : ρ1[o]? = some v0 := h2 0 _ _ rfl rfl
    have e1 := see_int (i := i1) (v := v1) g1 (List.mem_cons_of_mem _ List.mem_cons_self)
    have e2 := see_int (i := i2) (v := v2) g1 (List.mem_cons_of_mem _ (List.mem_cons_of_mem _ List.mem_cons_self))
    have e3 := see_int (i := i3) (v := v3) g1 (List.mem_cons_of_mem _ (List.mem_cons_of_mem _ (List.mem_cons_of_mem _ List.mem_cons_self)))
    subst e1 e2 e3
    refine ⟨by show 4 ≤ sizeLine; decide, fun l hl => ?_⟩
    have g2 : Sat X.K s1 σ ρ1 T H1 := g1.tdrop.tdrop.tdrop.tdrop
    obtain ⟨v', e2, ok, bk⟩ := g2.obj ho
    have ev : v' = v0 := Option.some.inj (e2.symm.trans vr0)
    subst ev
    obtain ⟨F, L, e1, f1⟩ := ok
    cases L with
    | nil => simp at e1
    | cons z L =>
      obtain ⟨z1, fp⟩ := z
      simp at e1
      obtain ⟨e3, e4⟩ := e1
      subst e3
      obtain ⟨u, e5, c, ws, k1, k2, k3, k4⟩ := f1.ent _ List.mem_cons_self
      have e5' : v' = u := Option.some.inj e5
      subst e5' k1
      have k2' : fp = [c] := k2
      subst k2'
      have ew := dps_ints k4
      subst ew
      have nlc : l ≠ c := fun e => by rw [e, k3] at hl; cases hl
      have fr := f1.fresh (o := .lst [.ref c, .int i1, .int i2, .int i3]) hl
      have nd := f1.nd
      unfold fpsOf at nd
      rw [List.flatMap_cons] at nd
      obtain ⟨n1, n2, n3⟩ := List.nodup_append.mp nd
      have own := f1.own
      have nl : ∀ a ∈ fpsOf L, a ≠ l := fun a ha e => by
        obtain ⟨_, o, ho⟩ := own a (by unfold fpsOf; rw [List.flatMap_cons]; exact List.mem_append_right _ ha)
        rw [e, hl] at ho
        cases ho
      have a1 := fr.tail.oCons (v := .ref l) (P := OTp ⟨ns, i1, i2, i3⟩) (fp := [l, c]) ⟨l, c, rfl, rfl, nlc, upd_same, by rw [upd_ne nlc.symm]; exact k3⟩ (by simp [nlc]) (fun a ha hx => by
        simp at ha
        rcases ha with rfl | rfl
        · exact nl a hx rfl
        · exact n3 a (by simp) a hx rfl) fun a ha => by
        simp at ha
        rcases ha with rfl | rfl
        · exact ⟨ext_none f1.ext hl, _, upd_same⟩
        · exact fr.own a (by unfold fpsOf; rw [List.flatMap_cons]; simp)
      have a2 : OK X.K ((IT.o (OTp ⟨ns, i1, i2, i3⟩), some (V.ref l)) :: (T ++ (ES s1.e σ ++ (RS s1.R ρ1).set o (IT.un, some (V.ref c))))) (upd H1 l (.lst [.ref c, .int i1, .int i2, .int i3])) := ⟨F, _, by rw [List.map_cons, e4], a1⟩
      obtain ⟨F3, L3, e6, f3⟩ := a2
      have a3 : OK X.K ((IT.o gone, some (V.ref c)) :: (((IT.o (OTp ⟨ns, i1, i2, i3⟩), some (V.ref l)) :: T) ++ (ES s1.e σ ++ (RS s1.R ρ1).set o (IT.un, some (V.ref c))))) (upd H1 l (.lst [.ref c, .int i1, .int i2, .int i3])) :=
        ⟨F3, (((IT.o gone, some (V.ref c)), []) :: L3), by rw [List.map_cons, e6]; rfl, f3.oCons (v := .ref c) (P := gone) (fp := []) rfl List.nodup_nil (fun a ha => by cases ha) (fun a ha => by cases ha)⟩
      have a4 := ZE.frz.back2 (T2 := (IT.o (OTp ⟨ns, i1, i2, i3⟩), some (V.ref l)) :: T) g2 ho vr0 a3
      refine q _ (ρ1 ++ [.ref l]) _ (p1.trans (List.prefix_append _ _)) ?_ (Sat.tun (Sat.push a4.ok a4.le a4.lr a4.al))
      show (ρ1 ++ [V.ref l])[s1.R.length]? = _
      rw [g1.lr, List.getElem?_append_right (Nat.le_refl _), Nat.sub_self]
      rfl
end
theorem cut80 {ds : List PyData} (h : ds.length ≤ 63) : cut ds none (some 80) = ds := by
  unfold cut
  rw [show HT.sIx ds.length ds.length (some 80) = min 80 ds.length from HT.sIx_nat ds.length ds.length 80, HT.sIx_none]
  rw [List.drop_zero, Nat.sub_zero, Nat.min_eq_right (by omega), List.take_length]
end Z

namespace Z
open PySem L2 PyProof.Rows

/-! ### xs.extend(ys), xs += ys, ys any list -/
section
open AutoSeq1 MeetsSeq MeetsSeq2
theorem ext_any (l : Addr) (its : Array Value) (n : Nat) (b : Addr) (its2 : Array Value) (n2 : Nat) (dd : Option Addr) (sl : Array (Option Value)) (h0 : ¬(!its.isEmpty && Builtin.List.listTooLong (its.size + its2.size)) = true) (h1 : its.size ≤ sizeLine) (h2 : its.size + its2.size ≤ sizeLine + 1) :
    PySem.Meets (Builtin.«list.extend» ⟨[.ref l, .ref b], []⟩) (fun _ R s => s.heap.get? l = some { cls := .type "list", dict := none, data := .seq its n, slots := #[] } ∧ s.heap.get? b = some { cls := .type "list", dict := dd, data := .seq its2 n2, slots := sl } ∧
      R (.ok (.ret Value.none)) { s with heap := s.heap.update l (Obj.mapSeq fun x => x ++ its2), toks := s.toks }) :=
  PySem.Meets.of_wp fun prog w A R s h => by
    obtain ⟨hp, g, d, tk, os⟩ := s
    obtain ⟨hl, hb, h⟩ := h
    have f1 := AutoSeq1.idx_int
    have f2 := AutoSeq1.sub_tuple_tuple
    have f3 := AutoSeq1.sub_list_list
    have f4 := AutoSeq1.sub_tuple_list
    have f5 := AutoSeq1.sub_list_tuple
    have hz' : (its ++ its2).size ≤ sizeLine + 1 := by rw [Array.size_append]; exact h2
    wp_walk using (wpAny_updateSeq hl rfl (hz := h1) (_hz' := hz')), wpAny_loadPart' hl, wpAny_loadPart' hb
    exact ⟨_, rfl, h⟩
end
section
variable {X : Cx} {e a b c : Expr} {es : List Expr} {st : Stmt} {rest body : List Stmt} {s s' s1 s2 s3 : S} {r r1 : SD} {rs : List SD} {pos p p2 q : Pos} {P : Po} {x y : PyData} {i j k : Int} {o n : Nat} {ds es' : List PyData}
def rExtQ (K : PySem.W.Frag) : V → List V → Hp → VK → Prop := fun x vs H Q => ∃ l b xs zs, x = V.ref l ∧ vs = [V.ref b] ∧ H l = some (.lst xs) ∧ SqL K H b zs ∧ xs.length + zs.length ≤ sizeLine ∧ Q .non (upd H l (.lst (xs ++ zs)))
theorem mt_extQ : MtM X "list.extend" (rExtQ X.K) := by
  intro pins s σ H x vs v us Q I rx rv h
  obtain ⟨l, b, xs, zs, rfl, rfl, hl, hb, hz, q⟩ := h
  cases rx
  obtain ⟨u, rfl, ru⟩ := rv.one
  cases ru
  obtain ⟨z, its, n, r, h1, e⟩ := I.lstM hl
  obtain ⟨its2, r2, ⟨ob, n2, e2, e3, e4, e5⟩, z2⟩ := I.list hb
  obtain ⟨oc, od, dt, sl⟩ := ob
  simp only at e3 e4 e5
  subst e3 e5
  have h2 := r2.length
  have hsz : its.toArray.size + its2.toArray.size ≤ sizeLine := by rw [List.size_toArray, List.size_toArray]; omega
  refine call_meets F.slot_list_extend ⟨_, e, rfl⟩ F.entry_list_extend (F.args_list_extend_2 _ _)
    (ext_any l its.toArray n b its2.toArray n2 od sl (by rw [notLongL hsz, Bool.and_false]; exact Bool.false_ne_true) (by rw [List.size_toArray]; omega) (by omega)) ⟨e, e2, ?_⟩
  refine ⟨.non, _, I.lset (its' := its ++ its2) hl e (by simp) (r.append r2) ?_, rfl, q⟩
  rw [List.length_append]
  omega
theorem pe_ext {apos : Pos} {ds1 : List PyData} (ha : ZE X a s (.r o) s1) (he : ZA X [e] s1 [r] s2) (h1 : s1.R[o]? = some (OL ds1)) (ho : s2.R[o]? = some (OL ds)) (w : Vw s2 r (.list es')) (hz : ds.length + es'.length ≤ sizeLine) (nr : r ≠ .r o)
    (hp : ∀ {t1 : TE} {t2 : TA}, PE X a t1 → PA X [e] t2 → PE X (.Call (.Attribute a "extend" apos) [e] [] p2) (tBM X.K "list" (rExtQ X.K) t1 t2)) :
    ZE X (.Call (.Attribute a "extend" apos) [e] [] p2) s (.d .none) ⟨s2.e, s2.R.set o (OL (ds ++ es'))⟩ := by
  refine PE.imp (hp ha he) fun σ H Q ⟨T, ρ, g, k⟩ => ⟨T, ρ, g, fun v ρ1 H1 p1 vr1 g1 => ?_⟩
  have y1 := g1.see List.mem_cons_self vr1 (.r h1)
  cases y1 with
  | @lst a0 xs0 ds0 hs _ =>
    refine ⟨.inl ⟨rfl, _, hs⟩, _, ρ1, g1, fun vs ρ2 H2 p2 vr2 g2 => ?_⟩
    obtain ⟨v, e1, vr3⟩ := vrs1 vr2
    subst e1
    have g3 : Sat X.K s2 σ ρ2 ((itOf r, some v) :: (itOf (SD.r o), some (V.ref a0)) :: T) H2 := g2
    obtain ⟨u, e2, ok, back⟩ := g3.obj ho
    have eu : u = V.ref a0 := Option.some.inj (e2.symm.trans (vr1.mono p2))
    subst eu
    -- what is added, in the frozen part
    obtain ⟨F, L, eL, hL⟩ := ok
    cases L with
    | nil => simp at eL
    | cons z L =>
      obtain ⟨z1, fp⟩ := z
      simp at eL
      obtain ⟨e3, e4⟩ := eL
      subst e3
      have fz : Fz X.K F ((IT.o (OL ds), some (V.ref a0)) :: ((itOf r, some v) :: (itOf (SD.r o), some (V.ref a0)) :: T ++ (ES s2.e σ ++ (RS s2.R ρ2).set o (IT.un, some (V.ref a0))))) H2 := ⟨_, by rw [List.map_cons, e4]; rfl, hL⟩
      obtain ⟨q, ws, e5, e6, e7, e8⟩ := fz.putL (ds' := ds)
      cases e5
      have see : ∃ b zs, v = V.ref b ∧ SqL X.K H2 b zs ∧ DpAll X.K F zs es' := by
        cases w with
        | d =>
          obtain ⟨u', e9, hd⟩ := fz.at (x := .list es') (v := some v) (List.mem_cons_of_mem _ List.mem_cons_self)
          cases e9
          cases hd with
          | lst hs ha => exact ⟨_, _, rfl, fz.ext.l hs, ha⟩
        | r ej =>
          rename_i j'
          by_cases ej2 : j' = o
          · subst ej2
            exact absurd rfl nr
          · have hv : ρ2[j']? = some v := vr3
            have m2 : (IT.o (OL es'), some v) ∈ (IT.o (OL ds), some (V.ref a0)) :: ((itOf (SD.r j'), some v) :: (itOf (SD.r o), some (V.ref a0)) :: T ++ (ES s2.e σ ++ (RS s2.R ρ2).set o (IT.un, some (V.ref a0)))) := by
              refine List.mem_cons_of_mem _ (List.mem_append_right _ (List.mem_append_right _ ?_))
              have := rs_get ej hv
              exact List.mem_of_getElem? (i := j') (by rw [List.getElem?_set_ne (fun z => ej2 z.symm)]; exact this)
            obtain ⟨u', fp', e9, b, zs, e10, e11, e12, e13⟩ := fz.own m2
            cases e9
            exact ⟨b, zs, e10, .of e12, e13⟩
      obtain ⟨b, zs, e9, e10, e11⟩ := see
      subst e9
      refine ⟨a0, b, ws, zs, rfl, rfl, e6, e10, by rw [dpsLen e7, dpsLen e11]; exact hz, k .non ρ2 _ (p1.trans p2) trivial ?_⟩
      exact ((back _ _ (e8 _ _ (dpsApp e7 e11))).tdrop.tdrop).tflat (show flat .non .none from trivial)
theorem zss_ext {apos : Pos} {ds1 : List PyData} (ha : ZE X a s (.r o) s1) (he : ZE X e s1 r s2) (h1 : s1.R[o]? = some (OL ds1)) (ho : s2.R[o]? = some (OL ds)) (w : Vw s2 r (.list es')) (hz : ds.length + es'.length ≤ sizeLine) (k : ZSs X rest ⟨s2.e, s2.R.set o (OL (ds ++ es'))⟩ P) (nr : r ≠ .r o := by first | (intro h; cases h; done) | (intro h; injection h with h; revert h; decide))
    (hne : starEach [e] X.env = (false, eval e X.env) :: starEach [] X.env := by rfl)
    (hbase : attributeBase a "extend" X.env (eval a X.env) = eval a X.env := by rfl)
    (hfew : ((backTo p2 (starEach (e :: []) X.env)).all (fun x => !x.1) && (backToKw p2 (keywordEach [] X.env)).all (fun x => x.1.isSome)
      && decide ((e :: ([] : List Expr)).length + ([] : List Keyword).length + (if ([] : List Keyword).isEmpty then 0 else 1) < 30)) = true := by rfl)
    (hline : (apos.endLine == p2.line) = true := by rfl) (hplain : (backTo p2 (starEach [] X.env)).any (·.1) = false := by rfl)
    (hs : swapsWith (.Call (.Attribute a "extend" apos) [e] [] p2) none pos.line X.env = pure false := by rfl) :
    ZSs X (.Expr (.Call (.Attribute a "extend" apos) [e] [] p2) pos :: rest) s P :=
  zss_expr (pe_ext ha (za_cons he za_nil hne) h1 ho w hz nr fun h1 h2 => pe_bm PySem.F.plainAttrs_list PySem.F.slot_list_extend PySem.F.type_list_extend mt_extQ h1 h2 hbase hfew hline hne hplain) k hs
/-! ### a <= b <= c -/
theorem ze_chI {op op' : CmpOp} {f g : Int → Int → Bool} (h1 : OpR X (compareOp op) (rI0 fun i j => .bl (f i j))) (h2 : OpR X (compareOp op') (rI0 fun i j => .bl (g i j))) (ha : ZE X a s (.d (.int i)) s1) (hb : ZE X b s1 (.d (.int j)) s2) (hc : ZE X c s2 (.d (.int k)) s2) (hm : lastMarks [op, op'] [b, c] = false := by with_unfolding_all rfl) :
    ZE X (.Compare a [op, op'] [b, c] pos) s (.d (.bool (f i j && g j k))) s2 := by
  refine PE.imp (pe_chain h1 h2 ha hb hc hm) fun σ H Q ⟨T, ρ, g0, q⟩ => ?_
  refine ⟨T, ρ, g0, fun v ρ1 H1 p1 _ g1 => ⟨_, ρ1, g1, fun u ρ2 H2 p2 _ g2 => ?_⟩⟩
  have e1 := see_int (i := j) (v := u) g2 List.mem_cons_self
  have e2 := see_int (i := i) (v := v) g2 (List.mem_cons_of_mem _ List.mem_cons_self)
  subst e1 e2
  refine ⟨i, j, rfl, rfl, _, rfl, ?_⟩
  cases hf : f i j with
  | true =>
    rw [if_pos rfl]
    refine ⟨_, ρ2, g2, fun w ρ3 H3 p3 _ g3 => ?_⟩
    have e3 := see_int (i := k) (v := w) g3 List.mem_cons_self
    subst e3
    refine ⟨j, k, rfl, rfl, ?_⟩
    have := q (.bl (g j k)) ρ3 H3 ((p1.trans p2).trans p3) trivial (by
      rw [hf, Bool.true_and]
      exact g3.tdrop.tdrop.tdrop.tflat (show flat (.bl _) (.bool _) from rfl))
    exact this
  | false =>
    rw [if_neg Bool.false_ne_true]
    refine q (.bl false) ρ2 H2 (p1.trans p2) trivial ?_
    rw [hf, Bool.false_and]
    exact g2.tdrop.tdrop.tflat (show flat (.bl _) (.bool _) from rfl)
theorem zt_chI {op op' : CmpOp} {f g : Int → Int → Bool} (h1 : OpR X (compareOp op) (rI0 fun i j => .bl (f i j))) (h2 : OpR X (compareOp op') (rI0 fun i j => .bl (g i j))) (ha : ZE X a s (.d (.int i)) s1) (hb : ZE X b s1 (.d (.int j)) s2) (hc : ZE X c s2 (.d (.int k)) s2) (hm : lastMarks [op, op'] [b, c] = false := by with_unfolding_all rfl) :
    ZT X (.Compare a [op, op'] [b, c] pos) s (Is (f i j && g j k) s2) := by
  refine PT.imp (pt_chain h1 h2 ha hb hc hm) fun σ H Q ⟨T, ρ, g0, q⟩ => ?_
  refine ⟨T, ρ, g0, fun v ρ1 H1 p1 _ g1 => ⟨_, ρ1, g1, fun u ρ2 H2 p2 _ g2 => ?_⟩⟩
  have e1 := see_int (i := j) (v := u) g2 List.mem_cons_self
  have e2 := see_int (i := i) (v := v) g2 (List.mem_cons_of_mem _ List.mem_cons_self)
  subst e1 e2
  refine ⟨i, j, rfl, rfl, _, rfl, ?_⟩
  cases hf : f i j with
  | true =>
    rw [if_pos rfl]
    refine ⟨_, ρ2, g2, fun w ρ3 H3 p3 _ g3 => ?_⟩
    have e3 := see_int (i := k) (v := w) g3 List.mem_cons_self
    subst e3
    exact ⟨j, k, rfl, rfl, _, rfl, q _ s2 ρ3 H3 ⟨by rw [hf, Bool.true_and], rfl⟩ ((p1.trans p2).trans p3) g3.tdrop.tdrop.tdrop⟩
  | false =>
    rw [if_neg Bool.false_ne_true]
    exact ⟨_, rfl, q _ s2 ρ2 H2 ⟨by rw [hf, Bool.false_and], rfl⟩ (p1.trans p2) g2.tdrop.tdrop⟩
/-! ### sums, greatest, least of rows of ints -/
theorem ze_sum {ns : List Int} (w : Vw s1 r (.list (ns.map .int))) (ha : ZA X [a] s [r] s1) (hm : X.mg "sum" = none) (hk : X.calm = true := by rfl) (c : Cl X "sum" a [] pos := by exact ⟨rfl, rfl, rfl⟩) : ZE X (.Call (.Name "sum" p) [a] [] pos) s (.d (.int ns.sum)) s1 :=
  ze_callB (cr_sum hk) (by decide +kernel) ha hm c (ca1 fun u T σ ρ H Q g vr k => by
    obtain ⟨F, p, vs, e1, hs, hd, _⟩ := g.seeL List.mem_cons_self vr w
    subst e1
    have := dps_ints hd
    subst this
    exact ⟨p, ns, rfl, hs, k _ ρ H (pre_refl ρ) trivial (g.tdrop.tflat (show flat (.int _) (.int _) from rfl))⟩)
/-! ### sorted(set(xs)), xs tuples -/
theorem ks_of {K : PySem.W.Frag} {F : Hp} : ∀ {vs : List V} {ds : List PyData}, DpAll K F vs ds → (∀ d ∈ ds, isTup d = true) → ∃ ks : List SEn, vs = ks.map (fun p => V.ref p.1) ∧ ds = ks.map (·.2) ∧ ∀ p ∈ ks, Dp K F (.ref p.1) p.2
  | _, _, .nil, _ => ⟨[], rfl, rfl, fun p m => by cases m⟩
  | _, _, .cons (d := d) h1 h2, ht => by
    obtain ⟨ks, e1, e2, e3⟩ := ks_of h2 fun d hd => ht d (List.mem_cons_of_mem _ hd)
    have h0 := ht d List.mem_cons_self
    cases h1 with
    | @tup a xs ds hs ha =>
      refine ⟨(a, .tuple ds) :: ks, by rw [e1]; rfl, by rw [e2]; rfl, fun p m => ?_⟩
      rcases List.mem_cons.mp m with z | z
      · subst z; exact .tup hs ha
      · exact e3 p z
    | _ => cases h0
theorem dps_of_ks {K : PySem.W.Frag} {F : Hp} : ∀ {ks : List SEn}, (∀ p ∈ ks, Dp K F (.ref p.1) p.2) → DpAll K F (ks.map fun p => V.ref p.1) (ks.map (·.2))
  | [], _ => .nil
  | p :: ks, h => .cons (h p List.mem_cons_self) (dps_of_ks fun q m => h q (List.mem_cons_of_mem _ m))
theorem Fz.junk {K : PySem.W.Frag} {F H : Hp} {l : List En} {a : Addr} {u : HO} (f : Fz K F l H) (h : H a = none) : Fz K F l (upd H a u) := let ⟨L, e, g⟩ := f; ⟨L, e, g.fresh h⟩
theorem ze_setS (w : Vw s1 r (.list ds)) (ha : ZE X e s r s1) (ht : ∀ d ∈ ds, isTup d = true ∧ kOK d = true ∧ dep d ≤ 8) (few : ds.length < 64) (al : PySem.W.AllAlike ds) (so : SrtK ds) (hd : ∀ d ∈ ds, d.depth ≤ 60) (hu : X.A.units + 64 < cLine) (m1 : X.mg "sorted" = none) (m2 : X.mg "set" = none) (hk : X.calm = true := by rfl)
    (c1 : Cl X "sorted" (.Call (.Name "set" p2) [e] [] q) [] pos := by exact ⟨rfl, rfl, rfl⟩) (c2 : Cl X "set" e [] q := by exact ⟨rfl, rfl, rfl⟩) :
    ZE X (.Call (.Name "sorted" p) [.Call (.Name "set" p2) [e] [] q] [] pos) s (.d (.list (srt (dd ds)))) s1 := by
  refine PE.imp (pe_callB (cr_sortSet hk) c1.1 m1 (by decide +kernel) (pa_cons (pe_callTy (cr_setD hk (by omega)) c2.1 m2 (by decide +kernel) (za_cons ha za_nil c2.2.1) (by decide) (by decide) c2.2.1 c2.2.2) pa_nil c1.2.1) (by decide) (by decide) c1.2.1 c1.2.2) fun σ H Q ⟨T, ρ, g, k⟩ => ?_
  refine ⟨T, ρ, g, fun us ρ1 H1 p1 vr g1 => ?_⟩
  obtain ⟨u, e1, vr1⟩ := vrs1 vr
  subst e1
  have g2 : Sat X.K s1 σ ρ1 ((itOf r, some u) :: T) H1 := g1
  obtain ⟨F, l, vs, e2, hs, hda, f⟩ := g2.seeL List.mem_cons_self vr1 w
  subst e2
  obtain ⟨ks, e3, e4, hks⟩ := ks_of hda fun d m => (ht d m).1
  subst e3 e4
  have ky : ∀ {H' : Hp}, Ext F H' → ∀ p ∈ ks, KyD X.K H' p.1 p.2 := fun x p m => ⟨dpUp x _ _ (hks p m), (ht _ (List.mem_map.mpr ⟨p, m, rfl⟩)).2⟩
  refine ⟨l, ks, rfl, hs, ky f.ext, by simpa using few, fun a L ha1 h2 h3 h4 => ?_⟩
  have f2 : Fz X.K F _ (upd H1 a (SxO X.w a L)) := f.junk ha1
  have pm : (L.map (·.2)).Perm (dd (ks.map (·.2))) := dd_perm h4 fun x => by
    constructor
    · intro m
      obtain ⟨p, m1, e⟩ := List.mem_map.mp m
      exact List.mem_map.mpr ⟨p, h2 p m1, e⟩
    · intro m
      obtain ⟨p, m1, e⟩ := List.mem_map.mp m
      rw [← e]
      exact h3 p m1
  have sub : ∀ d ∈ L.map (·.2), d ∈ ks.map (·.2) := fun d m => by
    obtain ⟨p, m1, e⟩ := List.mem_map.mp m
    exact List.mem_map.mpr ⟨p, h2 p m1, e⟩
  have al2 : PySem.W.AllAlike (L.map (·.2)) := fun d m d' m' => al d (sub d m) d' (sub d' m')
  show rSortSet X.K X.w X.A.units [V.ref a] _ Q
  refine ⟨a, L, rfl, upd_same, fun p m => ky f2.ext p (h2 p m), al2, ?_, fun p m => ?_, fun b M pM eM hb => ?_⟩
  · exact so.sub sub
  · have := hd p.2 (List.mem_map.mpr ⟨p, h2 p m, rfl⟩)
    omega
  · have res := f2.lstD (dps_of_ks (ks := M) fun p m => hks p (h2 p (pM.mem_iff.mp m))) hb
    rw [eM, srt_eq al2 pm] at res
    exact k _ ρ1 _ p1 trivial (g2.out1 res)
end
end Z

namespace Z
open PySem L2 PyProof.Rows
section
variable {X : Cx} {tg iter elt tg1 iter1 : Expr} {ifs ifs1 : List Expr} {s s1 : S} {ds : List PyData} {pos : Pos}
theorem offv.wid {vs : List Nat} {σ σ' : L2.St} (h : offv vs (L2.wipe σ vs) σ') : L2.wipe σ' vs = L2.wipe σ vs := wipe_off h
/-- two fors, turns that leave the objects -/
theorem lc2_run {scope : Scope} {own : List (Str × Nat)} {vs vs1 : List Nat} (hvs : own.map (·.2) = vs) (hsub : ∀ i ∈ vs1, i ∈ vs) (es : PyData → List PyData) (f : PyData → PyData → PyData) (p : PyData → Bool) (q : PyData → PyData → Bool)
    (turn : ∀ x, x ∈ ds → ∃ t', (∀ z, ZG (bl X scope z) tg vs x ⟨wipeE s1.e vs, s1.R⟩ t') ∧ t'.R = s1.R ∧ (∀ z, ZTs (bl X scope z) ifs t' (Is (p x) t')) ∧ (p x = true → (∀ z, ZI (bl X scope z) tg1 iter1 t' (es x) t') ∧
      ∀ y, y ∈ es x → ∃ t2, (∀ z, ZG (bl X scope z) tg1 vs1 y ⟨wipeE t'.e vs1, s1.R⟩ t2) ∧ t2.R = s1.R ∧ (∀ z, ZTs (bl X scope z) ifs1 t2 (Is (q x y) t2)) ∧ (q x y = true → ∀ z, ZE (bl X scope z) elt t2 (.d (f x y)) t2)))
    (hsz : (ds.flatMap es).length < sizeLine) (hi : ZI X tg iter s ds s1) (hN : X.N.Nodup) (hc : X.calm = true) (ok : BlkOk X.N X.env.scope scope own) (hs : ∀ x, foldedSetIterable iter X.env x = pure x) (hs1 : ∀ env x, foldedSetIterable iter1 env x = pure x) :
    ∃ te, (PE X (.ListComp elt [⟨tg, iter, ifs, 0⟩, ⟨tg1, iter1, ifs1, 0⟩] scope pos) te ∧ ∀ (i : Nat) (y : Str) (py spos : Pos), X.N[i]? = some y → X.env.scope.names.lookup y = some .local → swapsWith (.ListComp elt [⟨tg, iter, ifs, 0⟩, ⟨tg1, iter1, ifs1, 0⟩] scope pos) (some (.Name y py)) spos.line X.env = pure true →
        PS X (.Assign [.Name y py] (.ListComp elt [⟨tg, iter, ifs, 0⟩, ⟨tg1, iter1, ifs1, 0⟩] scope pos) spos) (tAsg te (gName i))) ∧ ∀ T σ ρ H Q, Sat X.K s σ ρ T H →
      (∀ ρ' D H', ρ <+: ρ' → Sat X.K s1 σ ρ' ((IT.o (OL ((ds.filter p).flatMap fun x => ((es x).filter (q x)).map (f x))), some (.ref D)) :: T) H' → Q (.ref D) H') → te σ H Q := by
  subst hvs
  have hg : ∀ (sh : Shared) (H : Hp) (C : Addr) (cl : List (Str × Addr)) (fp : List Addr), PG (X.blk sh H scope (compEnvC scope cl C X.env) fp) tg (fun v σ H Q => ∃ x t t', (∀ z, ZG (bl X scope z) tg (own.map (·.2)) x t t') ∧ tG X.K (own.map (·.2)) x t t' v σ H Q) := fun sh H C cl fp =>
    ⟨fun pins sh' σ H' v u Q I r ⟨x, t, t', m, q⟩ => (m (sh, H, C, cl, fp)).run pins sh' σ H' v u Q I r q⟩
  have ht : ∀ (sh : Shared) (H : Hp) (C : Addr) (cl : List (Str × Addr)) (fp : List Addr), PTs (X.blk sh H scope (compEnvC scope cl C X.env) fp) ifs (fun σ H Q => ∃ t R, (∀ z, ZTs (bl X scope z) ifs t R) ∧ tT X.K t R σ H Q) := fun sh H C cl fp =>
    ⟨fun pins sh' σ H' Q I ⟨t, R, m, q⟩ => (m (sh, H, C, cl, fp)).run pins sh' σ H' Q I q⟩
  have hi1 : ∀ (sh : Shared) (H : Hp) (C : Addr) (cl : List (Str × Addr)) (fp : List Addr), PI (X.blk sh H scope (compEnvC scope cl C X.env) fp) tg1 iter1 (fun σ H R => ∃ t ys t', (∀ z, ZI (bl X scope z) tg1 iter1 t ys t') ∧ tI X.K t ys t' σ H R) := fun sh H C cl fp =>
    ⟨fun pins sh' σ H' R I ⟨t, ys, t', m, q⟩ => (m (sh, H, C, cl, fp)).run pins sh' σ H' R I q⟩
  have hg1 : ∀ (sh : Shared) (H : Hp) (C : Addr) (cl : List (Str × Addr)) (fp : List Addr), PG (X.blk sh H scope (compEnvC scope cl C X.env) fp) tg1 (fun v σ H Q => ∃ x t t', (∀ z, ZG (bl X scope z) tg1 vs1 x t t') ∧ tG X.K vs1 x t t' v σ H Q) := fun sh H C cl fp =>
    ⟨fun pins sh' σ H' v u Q I r ⟨x, t, t', m, q⟩ => (m (sh, H, C, cl, fp)).run pins sh' σ H' v u Q I r q⟩
  have ht1 : ∀ (sh : Shared) (H : Hp) (C : Addr) (cl : List (Str × Addr)) (fp : List Addr), PTs (X.blk sh H scope (compEnvC scope cl C X.env) fp) ifs1 (fun σ H Q => ∃ t R, (∀ z, ZTs (bl X scope z) ifs1 t R) ∧ tT X.K t R σ H Q) := fun sh H C cl fp =>
    ⟨fun pins sh' σ H' Q I ⟨t, R, m, q⟩ => (m (sh, H, C, cl, fp)).run pins sh' σ H' Q I q⟩
  have he : ∀ (sh : Shared) (H : Hp) (C : Addr) (cl : List (Str × Addr)) (fp : List Addr), PE (X.blk sh H scope (compEnvC scope cl C X.env) fp) elt (fun σ H Q => ∃ t y t', (∀ z, ZE (bl X scope z) elt t (.d y) t') ∧ tE X.K t (.d y) t' σ H Q) := fun sh H C cl fp =>
    ⟨fun pins sh' σ H' Q I ⟨t, y, t', m, q⟩ => (m (sh, H, C, cl, fp)).run pins sh' σ H' Q I q⟩
  refine ⟨_, ⟨pe_lc2 hc hN hi ok hsub hg ht hi1 hg1 ht1 he hs hs1, fun i y py spos hy hyl hsw => ps_setLc2 hc hN hy hyl hsw hi ok hsub hg ht hi1 hg1 ht1 he hs hs1⟩, fun T σ ρ H Q g fin => ?_⟩
  refine ⟨T, ρ, g, fun J T0 ρ1 H1 p1 g1 w D hD => ?_⟩
  -- what is told by the first i
  obtain ⟨F, hF⟩ : ∃ F : PyData → List PyData, F = fun x => ((es x).filter (q x)).map (f x) := ⟨_, rfl⟩
  obtain ⟨acc, hacc⟩ : ∃ acc : Nat → List PyData, acc = fun i => ((ds.take i).filter p).flatMap F := ⟨_, rfl⟩
  have lenF : ∀ x, (F x).length ≤ (es x).length := fun x => by rw [hF, List.length_map]; exact List.length_filter_le _ _
  have accN : ∀ {i : Nat} {x : PyData}, ds[i]? = some x → acc (i + 1) = acc i ++ (if p x = true then F x else []) := fun {i x} hx => by
    rw [hacc]
    show ((ds.take (i + 1)).filter p).flatMap F = _
    rw [List.take_add_one, hx, Option.toList, List.filter_append, List.flatMap_append]
    congr 1
    by_cases hp : p x = true
    · rw [if_pos hp, List.filter_cons_of_pos hp]; simp
    · rw [if_neg hp, List.filter_cons_of_neg hp]; simp
  have accL : ∀ i, i ≤ ds.length → (acc i).length ≤ ((ds.take i).flatMap es).length := fun i => by
    induction i with
    | zero => intro _; rw [hacc]; simp
    | succ i ih =>
      intro hi
      have hx : ds[i]? = some ds[i] := List.getElem?_eq_getElem hi
      have es1 : ([ds[i]] : List PyData).flatMap es = es ds[i] := by rw [List.flatMap_cons, List.flatMap_nil, List.append_nil]
      rw [accN hx, List.take_add_one, hx, Option.toList, List.flatMap_append, List.length_append, List.length_append, es1]
      have h1 := ih (by omega)
      have h2 := lenF ds[i]
      split
      · omega
      · rw [List.length_nil]; omega
  have gb := g1.blk (own.map (·.2))
  have gD : Sat X.K ⟨wipeE s1.e (own.map (·.2)), s1.R⟩ (wipe σ (own.map (·.2))) ρ1 ((IT.o (OL (acc 0)), some (.ref D)) :: (ES s1.e σ ++ (T0 ++ T))) (upd H1 D (.lst [])) := by
    obtain ⟨F', f'⟩ := gb.ok.fz
    have : acc 0 = [] := by rw [hacc]; simp
    rw [this]
    exact gb.of (f'.lstO (ds := []) (vs := []) .nil hD)
  refine ⟨fun i m H' => m = ds.length - i ∧ i ≤ ds.length ∧ ∃ ρ', ρ1 <+: ρ' ∧ Sat X.K ⟨wipeE s1.e (own.map (·.2)), s1.R⟩ (wipe σ (own.map (·.2))) ρ' ((IT.o (OL (acc i)), some (.ref D)) :: (ES s1.e σ ++ (T0 ++ T))) H', ⟨_, rfl, Nat.zero_le _, ρ1, pre_refl _, gD⟩, ?_⟩
  rintro i m H' ⟨rfl, hi', ρ', p', g'⟩
  have okw : OK X.K (T0 ++ ((IT.o (OL (acc i)), some (.ref D)) :: (ES s1.e σ ++ T) ++ (ES (wipeE s1.e (own.map (·.2))) (wipe σ (own.map (·.2))) ++ RS s1.R ρ'))) H' := by
    refine g'.ok.perm ?_
    show ([(IT.o (OL (acc i)), some (V.ref D))] ++ (ES s1.e σ ++ (T0 ++ T)) ++ (ES (wipeE s1.e (own.map (·.2))) (wipe σ (own.map (·.2))) ++ RS s1.R ρ')).Perm (T0 ++ ([(IT.o (OL (acc i)), some (V.ref D))] ++ (ES s1.e σ ++ T) ++ (ES (wipeE s1.e (own.map (·.2))) (wipe σ (own.map (·.2))) ++ RS s1.R ρ')))
    simp only [List.append_assoc]
    exact ((cas (ES s1.e σ) T0 _).append_left _).trans (cas _ _ _)
  obtain ⟨w1, w2⟩ := w _ H' okw
  by_cases hlt : i < ds.length
  · obtain ⟨go, yl⟩ := w1 i ds[i] (List.getElem?_eq_getElem hlt)
    have hx : ds[i]? = some ds[i] := List.getElem?_eq_getElem hlt
    generalize ds[i] = x at hx yl go
    obtain ⟨t', hG, hR, hT, hI⟩ := turn x (List.mem_of_getElem? hx)
    have an := accN hx
    refine .inr ⟨go, fun H3 => ∃ ρ', ρ1 <+: ρ' ∧ Sat X.K ⟨wipeE s1.e (own.map (·.2)), s1.R⟩ (wipe σ (own.map (·.2))) ρ' ((IT.o (OL (acc (i + 1))), some (.ref D)) :: (ES s1.e σ ++ (T0 ++ T))) H3,
      fun H3 ⟨a1, a2, a3⟩ => ⟨ds.length - (i + 1), by omega, rfl, hlt, a1, a2, a3⟩, fun v H4 y => ?_⟩
    have okv := yl v H4 y
    have g4 : Sat X.K ⟨wipeE s1.e (own.map (·.2)), s1.R⟩ (wipe σ (own.map (·.2))) ρ' ((IT.d x, some v) :: ((IT.o (OL (acc i)), some (.ref D)) :: (ES s1.e σ ++ (T0 ++ T)))) H4 := by
      refine ⟨g'.le, g'.lr, g'.al, okv.perm (List.Perm.cons _ ?_)⟩
      show (T0 ++ ([(IT.o (OL (acc i)), some (V.ref D))] ++ (ES s1.e σ ++ T) ++ (ES (wipeE s1.e (own.map (·.2))) (wipe σ (own.map (·.2))) ++ RS s1.R ρ'))).Perm ([(IT.o (OL (acc i)), some (V.ref D))] ++ (ES s1.e σ ++ (T0 ++ T)) ++ (ES (wipeE s1.e (own.map (·.2))) (wipe σ (own.map (·.2))) ++ RS s1.R ρ'))
      simp only [List.append_assoc]
      exact (cas _ _ _).trans ((cas T0 (ES s1.e σ) _).append_left _)
    refine ⟨x, _, t', hG, _, ρ', ⟨g4.le, g4.lr, g4.al, g4.ok⟩, fun σ2 o g5 => ⟨wipe_off o, ?_⟩⟩
    have back : ∀ {e2 : List SD} {ρ2 : List V} {l2 : List PyData} {H2 : Hp}, ρ' <+: ρ2 → Sat X.K ⟨e2, s1.R⟩ σ2 ρ2 ((IT.o (OL l2), some (.ref D)) :: (ES s1.e σ ++ (T0 ++ T))) H2 →
        Sat X.K ⟨wipeE s1.e (own.map (·.2)), s1.R⟩ (wipe σ (own.map (·.2))) ρ2 ((IT.o (OL l2), some (.ref D)) :: (ES s1.e σ ++ (T0 ++ T))) H2 := fun {e2 ρ2 l2 H2} p2 g2 => by
      have b := g1.unblk (A := [(IT.o (OL l2), some (.ref D))]) (p'.trans p2) g2
      exact (b.blk (own.map (·.2))).tperm List.perm_middle
    refine ⟨t', Is (p x) t', hT, _, ρ', g5, fun b t2 ρ2 H5 hr p2 g6 => ?_⟩
    obtain ⟨eb, et⟩ := hr
    subst et
    obtain ⟨e', R'⟩ := t2
    have hR : R' = s1.R := hR
    subst hR
    cases b with
    | false =>
      refine ⟨ρ2, p'.trans p2, ?_⟩
      rw [an, if_neg (by rw [← eb]; decide), List.append_nil]
      exact back p2 g6
    | true =>
      obtain ⟨hI0, hI1⟩ := hI eb.symm
      rw [if_pos eb.symm] at an
      show ∃ _, _
      refine ⟨⟨e', s1.R⟩, es x, ⟨e', s1.R⟩, hI0, _, ρ2, g6, fun J1 T1 ρ3 H6 p3 g7 wk1 => ?_⟩
      obtain ⟨inn, hinn⟩ : ∃ inn : Nat → List PyData, inn = fun j => (((es x).take j).filter (q x)).map (f x) := ⟨_, rfl⟩
      have innN : ∀ {j : Nat} {y : PyData}, (es x)[j]? = some y → inn (j + 1) = inn j ++ (if q x y = true then [f x y] else []) := fun {j y} hy => by
        rw [hinn]
        show (((es x).take (j + 1)).filter (q x)).map (f x) = _
        rw [List.take_add_one, hy, Option.toList, List.filter_append, List.map_append]
        congr 1
        by_cases hq : q x y = true
        · rw [if_pos hq, List.filter_cons_of_pos hq]; rfl
        · rw [if_neg hq, List.filter_cons_of_neg hq]; rfl
      have innL : ∀ j, (inn j).length ≤ j := fun j => by
        rw [hinn, List.length_map]
        refine Nat.le_trans (List.length_filter_le _ _) ?_
        rw [List.length_take]
        omega
      have room : ∀ j, j < (es x).length → (acc i ++ inn j).length < sizeLine := fun j hj => by
        have h1 := accL i (by omega)
        have h2 := innL j
        have h3 : ((ds.take (i + 1)).flatMap es).length ≤ (ds.flatMap es).length := by
          conv => rhs; rw [← List.take_append_drop (i + 1) ds]
          rw [List.flatMap_append, List.length_append]
          omega
        have es1 : ([x] : List PyData).flatMap es = es x := by rw [List.flatMap_cons, List.flatMap_nil, List.append_nil]
        rw [List.take_add_one, hx, Option.toList, List.flatMap_append, List.length_append, es1] at h3
        rw [List.length_append]
        omega
      -- the frame of the inner round
      have g7' : Sat X.K ⟨e', s1.R⟩ σ2 ρ3 (T1 ++ ((IT.o (OL (acc i)), some (.ref D)) :: (ES s1.e σ ++ (T0 ++ T)))) H6 := g7
      have g7b := g7'.blk vs1
      have g70 : Sat X.K ⟨wipeE e' vs1, s1.R⟩ (wipe σ2 vs1) ρ3 ((IT.o (OL (acc i ++ inn 0)), some (.ref D)) :: (ES e' σ2 ++ (T1 ++ (ES s1.e σ ++ (T0 ++ T))))) H6 := by
        have e0 : acc i ++ inn 0 = acc i := by rw [hinn]; simp
        rw [e0]
        refine g7b.tperm ?_
        show (ES e' σ2 ++ (T1 ++ ([(IT.o (OL (acc i)), some (V.ref D))] ++ (ES s1.e σ ++ (T0 ++ T))))).Perm ([(IT.o (OL (acc i)), some (V.ref D))] ++ (ES e' σ2 ++ (T1 ++ (ES s1.e σ ++ (T0 ++ T)))))
        exact ((cas _ _ _).append_left _).trans (cas _ _ _)
      refine ⟨fun j k H' => k = (es x).length - j ∧ j ≤ (es x).length ∧ ∃ ρ', ρ3 <+: ρ' ∧ Sat X.K ⟨wipeE e' vs1, s1.R⟩ (wipe σ2 vs1) ρ' ((IT.o (OL (acc i ++ inn j)), some (.ref D)) :: (ES e' σ2 ++ (T1 ++ (ES s1.e σ ++ (T0 ++ T))))) H', ⟨_, rfl, Nat.zero_le _, ρ3, pre_refl _, g70⟩, ?_⟩
      rintro j k H7 ⟨rfl, hj, ρ4, p4, g8⟩
      have ok8 : OK X.K (T1 ++ ((IT.o (OL (acc i ++ inn j)), some (.ref D)) :: (ES e' σ2 ++ (ES s1.e σ ++ (T0 ++ T))) ++ (ES (wipeE e' vs1) (wipe σ2 vs1) ++ RS s1.R ρ4))) H7 := by
        refine g8.ok.perm ?_
        show ([(IT.o (OL (acc i ++ inn j)), some (V.ref D))] ++ (ES e' σ2 ++ (T1 ++ (ES s1.e σ ++ (T0 ++ T)))) ++ (ES (wipeE e' vs1) (wipe σ2 vs1) ++ RS s1.R ρ4)).Perm (T1 ++ ([(IT.o (OL (acc i ++ inn j)), some (V.ref D))] ++ (ES e' σ2 ++ (ES s1.e σ ++ (T0 ++ T))) ++ (ES (wipeE e' vs1) (wipe σ2 vs1) ++ RS s1.R ρ4)))
        simp only [List.append_assoc]
        exact ((cas (ES e' σ2) T1 _).append_left _).trans (cas _ _ _)
      obtain ⟨u1, u2⟩ := wk1 _ H7 ok8
      by_cases hjl : j < (es x).length
      · obtain ⟨go1, yl1⟩ := u1 j (es x)[j] (List.getElem?_eq_getElem hjl)
        have hy : (es x)[j]? = some (es x)[j] := List.getElem?_eq_getElem hjl
        generalize (es x)[j] = yy at hy yl1 go1
        obtain ⟨t3, k1, k2, k3, k4⟩ := hI1 yy (List.mem_of_getElem? hy)
        have inN := innN hy
        refine .inr ⟨go1, fun H3 => ∃ ρ', ρ3 <+: ρ' ∧ Sat X.K ⟨wipeE e' vs1, s1.R⟩ (wipe σ2 vs1) ρ' ((IT.o (OL (acc i ++ inn (j + 1))), some (.ref D)) :: (ES e' σ2 ++ (T1 ++ (ES s1.e σ ++ (T0 ++ T))))) H3,
          fun H3 ⟨a1, a2, a3⟩ => ⟨(es x).length - (j + 1), by omega, rfl, hjl, a1, a2, a3⟩, fun v2 H8 y2 => ?_⟩
        have okv2 := yl1 v2 H8 y2
        have g9 : Sat X.K ⟨wipeE e' vs1, s1.R⟩ (wipe σ2 vs1) ρ4 ((IT.d yy, some v2) :: ((IT.o (OL (acc i ++ inn j)), some (.ref D)) :: (ES e' σ2 ++ (T1 ++ (ES s1.e σ ++ (T0 ++ T)))))) H8 := by
          refine ⟨g8.le, g8.lr, g8.al, okv2.perm (List.Perm.cons _ ?_)⟩
          show (T1 ++ ([(IT.o (OL (acc i ++ inn j)), some (V.ref D))] ++ (ES e' σ2 ++ (ES s1.e σ ++ (T0 ++ T))) ++ (ES (wipeE e' vs1) (wipe σ2 vs1) ++ RS s1.R ρ4))).Perm ([(IT.o (OL (acc i ++ inn j)), some (V.ref D))] ++ (ES e' σ2 ++ (T1 ++ (ES s1.e σ ++ (T0 ++ T)))) ++ (ES (wipeE e' vs1) (wipe σ2 vs1) ++ RS s1.R ρ4))
          simp only [List.append_assoc]
          exact (cas _ _ _).trans ((cas T1 (ES e' σ2) _).append_left _)
        refine ⟨yy, _, t3, k1, _, ρ4, g9, fun σ3 o3 ga => ⟨wipe_off o3, ?_⟩⟩
        have back1 : ∀ {e2 : List SD} {ρ5 : List V} {l2 : List PyData} {H2 : Hp}, ρ4 <+: ρ5 → Sat X.K ⟨e2, s1.R⟩ σ3 ρ5 ((IT.o (OL l2), some (.ref D)) :: (ES e' σ2 ++ (T1 ++ (ES s1.e σ ++ (T0 ++ T))))) H2 →
            Sat X.K ⟨wipeE e' vs1, s1.R⟩ (wipe σ2 vs1) ρ5 ((IT.o (OL l2), some (.ref D)) :: (ES e' σ2 ++ (T1 ++ (ES s1.e σ ++ (T0 ++ T))))) H2 := fun {e2 ρ5 l2 H2} p5 g2 => by
          have b := g7'.unblk (A := [(IT.o (OL l2), some (.ref D))]) (p4.trans p5) g2
          exact (b.blk vs1).tperm List.perm_middle
        obtain ⟨e3, R3⟩ := t3
        have k2 : R3 = s1.R := k2
        subst k2
        refine ⟨⟨e3, s1.R⟩, Is (q x yy) ⟨e3, s1.R⟩, k3, _, ρ4, ga, fun b2 t4 ρ5 H9 hr2 p5 gb => ?_⟩
        obtain ⟨eb2, et2⟩ := hr2
        subst et2
        cases b2 with
        | false =>
          refine ⟨ρ5, p4.trans p5, ?_⟩
          rw [inN, if_neg (by rw [← eb2]; decide), List.append_nil]
          exact back1 p5 gb
        | true =>
          rw [if_pos eb2.symm] at inN
          show ∃ _, _
          refine ⟨⟨e3, s1.R⟩, f x yy, ⟨e3, s1.R⟩, k4 eb2.symm, _, ρ5, gb, fun u ρ6 Ha p6 _ gc => ?_⟩
          have g8' : OK X.K ((IT.o (OL (acc i ++ inn j)), some (.ref D)) :: ((IT.d (f x yy), some u) :: (ES e' σ2 ++ (T1 ++ (ES s1.e σ ++ (T0 ++ T)))) ++ (ES e3 σ3 ++ RS s1.R ρ6))) Ha := gc.ok.perm (List.Perm.swap _ _ _)
          obtain ⟨F', f'⟩ := g8'.fz
          obtain ⟨pD, vs', e4, h1, h2, h3⟩ := f'.putL (ds' := acc i ++ inn j)
          cases e4
          obtain ⟨u', e5, hu⟩ := f'.at (x := f x yy) (v := some u) (List.mem_cons_of_mem _ List.mem_cons_self)
          cases e5
          refine ⟨vs', h1, by rw [dpsLen h2]; exact room j hjl, ρ6, (p4.trans p5).trans p6, back1 (e2 := e3) (p5.trans p6) ?_⟩
          have kk := h3 (acc i ++ inn (j + 1)) (vs' ++ [u]) (by rw [inN, ← List.append_assoc]; exact dpsApp h2 (.cons hu .nil))
          exact ⟨gc.le, gc.lr, gc.al, ((kk.perm (List.Perm.swap _ _ _)).tail)⟩
      · have e0 : j = (es x).length := by omega
        subst e0
        refine .inl ⟨u2, ρ4, ((p'.trans p2).trans p3).trans p4, ?_⟩
        have ei : inn (es x).length = F x := by rw [hinn, hF]; show (((es x).take _).filter (q x)).map (f x) = _; rw [List.take_length]
        rw [ei, ← an] at g8
        have b := g7'.unblk (A := [(IT.o (OL (acc (i + 1))), some (.ref D))]) p4 g8
        have b2 : Sat X.K ⟨e', s1.R⟩ σ2 ρ4 ((IT.o (OL (acc (i + 1))), some (.ref D)) :: (ES s1.e σ ++ (T0 ++ T))) H7 := by
          have b3 : Sat X.K ⟨e', s1.R⟩ σ2 ρ4 (T1 ++ ((IT.o (OL (acc (i + 1))), some (.ref D)) :: (ES s1.e σ ++ (T0 ++ T)))) H7 := b.tperm List.perm_middle.symm
          exact b3.tdrops
        exact back ((p2.trans p3).trans p4) b2
  · have e : i = ds.length := by omega
    subst e
    refine .inl ⟨w2, ?_⟩
    have b := g1.unblk (A := [(IT.o (OL (acc ds.length)), some (.ref D))]) p' g'
    have b2 : Sat X.K s1 σ ρ' ((IT.o (OL (acc ds.length)), some (.ref D)) :: (T0 ++ T)) H' := b
    have b3 : Sat X.K s1 σ ρ' (T0 ++ ((IT.o (OL (acc ds.length)), some (.ref D)) :: T)) H' := b2.tperm List.perm_middle.symm
    have ea : acc ds.length = (ds.filter p).flatMap fun x => ((es x).filter (q x)).map (f x) := by rw [hacc, hF]; show ((ds.take _).filter p).flatMap _ = _; rw [List.take_length]
    have b4 := b3.tdrops
    rw [ea] at b4
    exact fin ρ' D H' (p1.trans p') b4

theorem ze_lc2P {scope : Scope} {own : List (Str × Nat)} {vs vs1 : List Nat} (es : PyData → List PyData) (f : PyData → PyData → PyData) (p : PyData → Bool) (q : PyData → PyData → Bool) (hi : ZI X tg iter s ds s1)
    (turn : ∀ x, x ∈ ds → ∃ t', (∀ z, ZG (bl X scope z) tg vs x ⟨wipeE s1.e vs, s1.R⟩ t') ∧ t'.R = s1.R ∧ (∀ z, ZTs (bl X scope z) ifs t' (Is (p x) t')) ∧ (p x = true → (∀ z, ZI (bl X scope z) tg1 iter1 t' (es x) t') ∧
      ∀ y, y ∈ es x → ∃ t2, (∀ z, ZG (bl X scope z) tg1 vs1 y ⟨wipeE t'.e vs1, s1.R⟩ t2) ∧ t2.R = s1.R ∧ (∀ z, ZTs (bl X scope z) ifs1 t2 (Is (q x y) t2)) ∧ (q x y = true → ∀ z, ZE (bl X scope z) elt t2 (.d (f x y)) t2)))
    (hsz : (ds.flatMap es).length < sizeLine) (hN : X.N.Nodup) (ok : BlkOk X.N X.env.scope scope own) (hsub : ∀ i ∈ vs1, i ∈ vs := by decide) (hvs : own.map (·.2) = vs := by rfl) (hc : X.calm = true := by rfl) (hs : ∀ x, foldedSetIterable iter X.env x = pure x := by intro _; rfl) (hs1 : ∀ env x, foldedSetIterable iter1 env x = pure x := by intro _ _; rfl) :
    ZE X (.ListComp elt [⟨tg, iter, ifs, 0⟩, ⟨tg1, iter1, ifs1, 0⟩] scope pos) s (.d (.list ((ds.filter p).flatMap fun x => ((es x).filter (q x)).map (f x)))) s1 := by
  obtain ⟨te, ⟨h, _⟩, run⟩ := lc2_run (pos := pos) hvs hsub es f p q turn hsz hi hN hc ok hs hs1
  refine PE.imp h fun σ H Q ⟨T, ρ, g, fin⟩ => run T σ ρ H Q g fun ρ' D' H' pp g' => ?_
  obtain ⟨F, fz⟩ := g'.ok.fz
  exact fin _ ρ' H' pp trivial ⟨g'.le, g'.lr, g'.al, fz.freeze⟩
theorem zss_setLc2P {scope : Scope} {own : List (Str × Nat)} {vs vs1 : List Nat} {y : Str} {py spos : Pos} {rest : List Stmt} {P : Po} (i : Nat) (es : PyData → List PyData) (f : PyData → PyData → PyData) (p : PyData → Bool) (q : PyData → PyData → Bool) (hi : ZI X tg iter s ds s1)
    (turn : ∀ x, x ∈ ds → ∃ t', (∀ z, ZG (bl X scope z) tg vs x ⟨wipeE s1.e vs, s1.R⟩ t') ∧ t'.R = s1.R ∧ (∀ z, ZTs (bl X scope z) ifs t' (Is (p x) t')) ∧ (p x = true → (∀ z, ZI (bl X scope z) tg1 iter1 t' (es x) t') ∧
      ∀ y, y ∈ es x → ∃ t2, (∀ z, ZG (bl X scope z) tg1 vs1 y ⟨wipeE t'.e vs1, s1.R⟩ t2) ∧ t2.R = s1.R ∧ (∀ z, ZTs (bl X scope z) ifs1 t2 (Is (q x y) t2)) ∧ (q x y = true → ∀ z, ZE (bl X scope z) elt t2 (.d (f x y)) t2)))
    (hsz : (ds.flatMap es).length < sizeLine) (hN : X.N.Nodup) (ok : BlkOk X.N X.env.scope scope own) (hil : i < s1.e.length) (k : ZSs X rest ⟨s1.e.set i (.d (.list ((ds.filter p).flatMap fun x => ((es x).filter (q x)).map (f x)))), s1.R⟩ P) (hsub : ∀ i ∈ vs1, i ∈ vs := by decide) (hvs : own.map (·.2) = vs := by rfl) (hc : X.calm = true := by rfl) (hs : ∀ x, foldedSetIterable iter X.env x = pure x := by intro _; rfl) (hs1 : ∀ env x, foldedSetIterable iter1 env x = pure x := by intro _ _; rfl)
    (hy : X.N[i]? = some y := by rfl) (hyl : X.env.scope.names.lookup y = some .local := by rfl) (hsw : swapsWith (.ListComp elt [⟨tg, iter, ifs, 0⟩, ⟨tg1, iter1, ifs1, 0⟩] scope pos) (some (.Name y py)) spos.line X.env = pure true := by rfl) :
    ZSs X (.Assign [.Name y py] (.ListComp elt [⟨tg, iter, ifs, 0⟩, ⟨tg1, iter1, ifs1, 0⟩] scope pos) spos :: rest) s P := by
  obtain ⟨te, ⟨_, h⟩, run⟩ := lc2_run (pos := pos) hvs hsub es f p q turn hsz hi hN hc ok hs hs1
  refine zss_seq (M := fun t => t = ⟨s1.e.set i (.d (.list ((ds.filter p).flatMap fun x => ((es x).filter (q x)).map (f x)))), s1.R⟩) (PS.imp (h i y py spos hy hyl hsw) fun D σ H ⟨t, T, ρ, e1, hb, g, qq⟩ => ?_) fun t e => by subst e; exact k
  subst e1
  refine run T σ ρ H _ g fun ρ' D' H' pp g' => ?_
  obtain ⟨F, fz⟩ := g'.ok.fz
  have g2 : Sat X.K s1 σ ρ' ((itOf (.d (.list ((ds.filter p).flatMap fun x => ((es x).filter (q x)).map (f x)))), some (.ref D')) :: T) H' := ⟨g'.le, g'.lr, g'.al, fz.freeze⟩
  exact qq.nx _ (σ.set i (some (.ref D'))) ρ' H' rfl ((List.take_prefix _ _).trans pp) (Sat.put (s := s1) (r := .d (.list _)) hil trivial g2)
end
end Z

namespace Z
open PySem L2 PyProof.Rows

/-! ### list + list, xs += ys -/
section
open AutoSeq1 MeetsSeq MeetsSeq2
theorem add_any (l : Addr) (its : Array Value) (n : Nat) (b : Addr) (its2 : Array Value) (n2 : Nat) (dd d1 : Option Addr) (sl s1 : Array (Option Value)) (h2 : its.size + its2.size ≤ sizeLine) :
    PySem.Meets (Builtin.«list.__add__» ⟨[.ref l, .ref b], []⟩) (fun _ R s => s.heap.get? l = some { cls := .type "list", dict := d1, data := .seq its n, slots := s1 } ∧ s.heap.get? b = some { cls := .type "list", dict := dd, data := .seq its2 n2, slots := sl } ∧
      R (.ok (.ret (Value.ref s.heap.objs.size))) { s with heap := s.heap.push { cls := Value.type "list", data := Data.seq (its ++ its2) }, toks := s.toks }) :=
  PySem.Meets.of_wp fun prog w A R s h => by
    obtain ⟨hp, g, d, tk, os⟩ := s
    obtain ⟨hl, hb, h⟩ := h
    have hc0 := h2
    have f1 := AutoSeq1.idx_int
    have f2 := AutoSeq1.sub_tuple_tuple
    have f3 := AutoSeq1.sub_list_list
    have f4 := AutoSeq1.sub_tuple_list
    have f5 := AutoSeq1.sub_list_tuple
    wp_walk using wpAny_loadPart' hl, wpAny_loadPart' hb
    exact ⟨_, rfl, h⟩
theorem iadd_any (l : Addr) (its : Array Value) (n : Nat) (b : Addr) (its2 : Array Value) (n2 : Nat) (dd : Option Addr) (sl : Array (Option Value)) (h0 : ¬(!its.isEmpty && Builtin.List.listTooLong (its.size + its2.size)) = true) (h1 : its.size ≤ sizeLine) (h2 : its.size + its2.size ≤ sizeLine + 1) :
    PySem.Meets (Builtin.«list.__iadd__» ⟨[.ref l, .ref b], []⟩) (fun _ R s => s.heap.get? l = some { cls := .type "list", dict := none, data := .seq its n, slots := #[] } ∧ s.heap.get? b = some { cls := .type "list", dict := dd, data := .seq its2 n2, slots := sl } ∧
      R (.ok (.ret (Value.ref l))) { s with heap := s.heap.update l (Obj.mapSeq fun x => x ++ its2), toks := s.toks }) :=
  PySem.Meets.of_wp fun prog w A R s h => by
    obtain ⟨hp, g, d, tk, os⟩ := s
    obtain ⟨hl, hb, h⟩ := h
    have f1 := AutoSeq1.idx_int
    have f2 := AutoSeq1.sub_tuple_tuple
    have f3 := AutoSeq1.sub_list_list
    have f4 := AutoSeq1.sub_tuple_list
    have f5 := AutoSeq1.sub_list_tuple
    have hz' : (its ++ its2).size ≤ sizeLine + 1 := by rw [Array.size_append]; exact h2
    wp_walk using (wpAny_updateSeq hl rfl (hz := h1) (_hz' := hz')), wpAny_loadPart' hl, wpAny_loadPart' hb
    exact ⟨_, rfl, h⟩
theorem tup_mul1 (l : Addr) (items : Array Value) (n : Nat) (dd : Option Addr) (sl : Array (Option Value)) (x : Int) (u : Tok) (c0 : (decide (x < -(2 ^ 63)) || decide (x ≥ 2 ^ 63)) = false) (c1 : (items.isEmpty || x == 1) = true) :
    PySem.Meets (Builtin.«tuple.__mul__» ⟨[.ref l, .int x u], []⟩) (fun _ R s => s.heap.get? l = some { cls := .type "tuple", dict := dd, data := .seq items n, slots := sl } ∧
      R (.ok (.ret (Value.ref l))) { s with heap := s.heap, toks := s.toks }) :=
  PySem.Meets.of_wp fun prog w A R s h => by
    obtain ⟨hp, g, d, tk, os⟩ := s
    obtain ⟨hl, h⟩ := h
    have f1 := AutoSeq1.idx_int
    wp_walk using wpAny_loadPart' hl
    repeat (first
      | (refine wpAny_ite_false (decide_eq_false (by rw [c0]; exact Bool.false_ne_true)) ?_; wp_walk using wpAny_loadPart' hl)
      | (refine wpAny_ite_true (decide_eq_true (by rw [c1])) ?_; wp_walk using wpAny_loadPart' hl))
    exact ⟨_, rfl, h⟩
end
section
variable {X : Cx} {e a b c : Expr} {es : List Expr} {st : Stmt} {rest body : List Stmt} {s s' s1 s2 s3 : S} {r r1 : SD} {rs : List SD} {pos p p2 q : Pos} {P : Po} {x y : PyData} {i j k : Int} {o n : Nat} {ds es' : List PyData}
def rCatQ (K : PySem.W.Frag) : R2 := fun x y H Q => ∃ l b xs zs, x = V.ref l ∧ y = V.ref b ∧ SqL K H l xs ∧ SqL K H b zs ∧ xs.length + zs.length ≤ sizeLine ∧ ∀ p, H p = none → Q (.ref p) (upd H p (.lst (xs ++ zs)))
theorem op_catQ : OpR X (binaryOp .Add) (rCatQ X.K) := by
  intro pins s σ H x y v u Q I rx ry h
  obtain ⟨l, b, xs, zs, rfl, rfl, hH, hB, hz, q⟩ := h
  cases rx
  cases ry
  obtain ⟨its, r, ⟨o1, n, e1, c1, d1, f1⟩, z⟩ := I.list hH
  obtain ⟨its2, r2, ⟨o2, n2, e2, c2, d2, f2⟩, z2⟩ := I.list hB
  have h1 := r.length
  have h2 := r2.length
  obtain ⟨oc, od, dt, sl⟩ := o1
  obtain ⟨oc', od', dt', sl'⟩ := o2
  simp only at c1 c2 f1 f2
  subst c1 c2 f1 f2
  refine concat_meets ⟨_, e1, rfl⟩ ⟨_, e2, rfl⟩ noFill_list_add seq_list_add F.slot_list_add F.entry_list_add (F.args_list_add_2 _ _) (add_any l its.toArray n b its2.toArray n2 od' od sl' sl (by rw [List.size_toArray, List.size_toArray]; omega)) ⟨e1, e2, ?_⟩
  have ea : its.toArray ++ its2.toArray = (its ++ its2).toArray := by simp
  rw [ea]
  exact ⟨.ref _, _, I.lnew (t' := s.toks) (r.append r2) (by rw [List.length_append]; omega), rfl, q _ I.fresh⟩
theorem bi_catL {K : PySem.W.Frag} {ds es : List PyData} (hz : ds.length + es.length ≤ sizeLine) : Bi K (rCatQ K) s (.d (.list ds)) (.d (.list es)) (.d (.list (ds ++ es))) s := fun u w T σ ρ H Q g va vb k => by
  obtain ⟨F, f⟩ := g.ok.fz
  obtain ⟨u', e1, h1⟩ := f.at (x := .list ds) (v := some u) (List.mem_append_left _ (List.mem_cons_of_mem _ List.mem_cons_self))
  obtain ⟨w', e2, h2⟩ := f.at (x := .list es) (v := some w) (List.mem_append_left _ List.mem_cons_self)
  cases e1
  cases e2
  cases h1 with
  | lst hs ha =>
    cases h2 with
    | lst ht hb => exact ⟨_, _, _, _, rfl, rfl, f.ext.l hs, f.ext.l ht, by rw [dpsLen ha, dpsLen hb]; exact hz, fun p hp => k _ ρ _ (pre_refl ρ) trivial (g.out2 (f.lstD (dpsApp ha hb) hp))⟩
theorem ze_catL {ds es : List PyData} (hz : ds.length + es.length ≤ sizeLine) (ha : ZE X a s (.d (.list ds)) s1) (hb : ZE X b s1 (.d (.list es)) s2) : ZE X (.BinOp a .Add b pos) s (.d (.list (ds ++ es))) s2 := ze_op op_catQ ha hb (bi_catL hz)
def ipExtQ (K : PySem.W.Frag) : TIp := fun x y H Q => ∃ l b xs zs, x = V.ref l ∧ y = V.ref b ∧ H l = some (.lst xs) ∧ SqL K H b zs ∧ xs.length + zs.length ≤ sizeLine ∧ Q (.ref l) (upd H l (.lst (xs ++ zs)))
theorem ip_extQ : PIp X .Add (ipExtQ X.K) := by
  intro pins s σ H x y v u Q I rx ry h
  obtain ⟨l, b, xs, zs, rfl, rfl, hl, hb, hz, q⟩ := h
  cases rx
  cases ry
  obtain ⟨z, its, n, r, h1, e⟩ := I.lstM hl
  obtain ⟨its2, r2, ⟨ob, n2, e2, e3, e4, e5⟩, z2⟩ := I.list hb
  obtain ⟨oc, od, dt, sl⟩ := ob
  simp only at e3 e4 e5
  subst e3 e5
  have h2 := r2.length
  have hsz : its.toArray.size + its2.toArray.size ≤ sizeLine := by rw [List.size_toArray, List.size_toArray]; omega
  refine iadd_road ⟨_, e, rfl⟩ ⟨_, e2, rfl⟩ (call_meets F.slot_list_iadd ⟨_, e, rfl⟩ F.entry_list_iadd (F.args_list_iadd_2 _ _)
    (iadd_any l its.toArray n b its2.toArray n2 od sl (by rw [notLongL hsz, Bool.and_false]; exact Bool.false_ne_true) (by rw [List.size_toArray]; omega) (by omega)) ⟨e, e2, ?_⟩)
  refine ⟨.ref l, _, I.lset (its' := its ++ its2) (t' := s.toks) hl e (by simp) (r.append r2) ?_, rfl, q⟩
  rw [List.length_append]
  omega
/-- xs += ys, xs of its own at o, ys a datum's list -/
theorem zss_augL {nm : Str} {p' : Pos} (i : Nat) (hu : s1.e[i]? = some (.r o)) (hu0 : s.e[i]? = some (.r o)) (h : ZE X e s (.d (.list es')) s1) (ho : s1.R[o]? = some (OL ds)) (hz : ds.length + es'.length ≤ sizeLine) (k : ZSs X rest ⟨s1.e, s1.R.set o (OL (ds ++ es'))⟩ P) (hN : X.N.Nodup) (hx : X.N[i]? = some nm := by rfl) (hl : Loc X.env.scope nm := by first | exact .inl rfl | exact .inr rfl)
    (hf : X.fn nm = true ∨ X.env.scope.names.lookup nm = some .local := by first | exact .inl rfl | exact .inr rfl) : ZSs X (.AugAssign (.Name nm p') .Add e pos :: rest) s P :=
  zss_seq (M := fun t => t = ⟨s1.e, s1.R.set o (OL (ds ++ es'))⟩) (PS.imp (ps_aug hN hx hl h ip_extQ hf) fun D σ H ⟨t, T, ρ, e1, hb, g, q⟩ => by
    subst e1
    obtain ⟨v0, h0, hv0⟩ := g.al i o hu0
    refine ⟨v0, h0, T, ρ, g, fun w ρ' H' pp vr g' => ?_⟩
    obtain ⟨u, e2, ok, back⟩ := g'.obj ho
    have eu : u = v0 := by
      obtain ⟨t, rfl⟩ := pp
      rw [List.getElem?_append_left (List.getElem?_eq_some_iff.mp hv0).1, hv0] at e2
      exact (Option.some.inj e2).symm
    subst eu
    obtain ⟨F, fz⟩ := ok.fz
    obtain ⟨q0, ws, e5, e6, e7, e8⟩ := fz.putL (ds' := ds)
    cases e5
    obtain ⟨u', e9, hd⟩ := fz.at (x := .list es') (v := some w) (List.mem_cons_of_mem _ List.mem_cons_self)
    cases e9
    cases hd with
    | @lst b' zs _ hs ha =>
      refine ⟨_, _, _, _, rfl, rfl, e6, fz.ext.l hs, by rw [dpsLen e7, dpsLen ha]; exact hz, ?_⟩
      have gg := back _ _ (e8 _ _ (dpsApp e7 ha))
      obtain ⟨u2, e10, e11⟩ := g'.al i o hu
      have : σ.set i (some (V.ref q0)) = σ := by
        have e12 : u2 = V.ref q0 := Option.some.inj (e11.symm.trans e2)
        subst e12
        exact set_self e10
      show D.nx (σ.set i (some (V.ref q0))) _
      rw [this]
      exact q.nx _ σ ρ' _ rfl ((List.take_prefix _ _).trans pp) gg.tdrop) fun t e => by subst e; exact k
/-- str(i) -/
theorem ze_strI (hi : i.natAbs.log2 < 1920) (ha : ZA X [a] s [.d (.int i)] s1) (hm : X.mg "str" = none) (c : Cl X "str" a [] pos := by exact ⟨rfl, rfl, rfl⟩) : ZE X (.Call (.Name "str" p) [a] [] pos) s (.d (.str (toString i))) s1 :=
  ze_callT call_str_int (by decide +kernel) ha hm c (ca1 fun u T σ ρ H Q g vr k => by
    have e1 := see_int (i := i) (v := u) g List.mem_cons_self
    subst e1
    exact ⟨i, rfl, hi, k _ ρ H (pre_refl ρ) trivial (g.tdrop.tflat (show flat (.str _) (.str _) from rfl))⟩)
/-- t * k, k at least 1 -/
def rRepQ (K : PySem.W.Frag) : R2 := fun x y H Q => ∃ l k xs, x = V.ref l ∧ y = V.int k ∧ SqT K H l xs ∧ xs ≠ [] ∧ 1 ≤ k ∧ k ≤ 1000 ∧ xs.length ≤ 1000 ∧ (k = 1 → Q (.ref l) H) ∧ (2 ≤ k → ∀ p, H p = none → Q (.ref p) (upd H p (.tup (List.replicate k.toNat xs).flatten)))
theorem op_repQ : OpR X (binaryOp .Mult) (rRepQ X.K) := by
  intro pins s σ H x y v u Q I rx ry h
  obtain ⟨l, k, xs, rfl, rfl, hT, hne, h1, h2, hz, q1, q2⟩ := h
  by_cases hk : k = 1
  · subst hk
    cases rx
    obtain ⟨t, rfl⟩ := ry
    obtain ⟨its, r, ⟨⟨cls, dd, data, sl⟩, ho, hc, n, hd⟩, hs⟩ := I.tuple hT
    simp only at hc hd
    subst hc hd
    exact wpAny_binaryOp_repeat_ref (T := "tuple") (U := "int") (by decide) ⟨_, ho, rfl⟩ (fun s' => typeIs_int s' 1 t) noFill_tuple_mul F.fills_int_mul F.slot_int_rmul repeat_tuple F.slot_int_index.lookup
      (call_meets F.slot_int_rmul (typeIs_int s 1 t) F.entry_int_rmul (F.args_int_rmul_2 _ _) (int_rmul_tuple 1 t l its.toArray n dd sl)
        ⟨ho, rfl, ⟨_, ho, rfl⟩, call_meets F.slot_tuple_mul ⟨_, ho, rfl⟩ F.entry_tuple_mul (F.args_tuple_mul_2 _ _) (tup_mul1 l its.toArray n dd sl 1 t rfl (by simp)) ⟨ho, ⟨.ref l, H, I.tok s.toks, rfl, q1 rfl⟩⟩⟩)
  · exact op_repT pins s σ H _ _ v u Q I rx ry ⟨l, k, xs, rfl, rfl, hT, hne, by omega, h2, hz, q2 (by omega)⟩
theorem dpsRep {K : PySem.W.Frag} {F : Hp} {vs : List V} {ds : List PyData} (h : DpAll K F vs ds) : ∀ n : Nat, DpAll K F (List.replicate n vs).flatten (List.replicate n ds).flatten
  | 0 => .nil
  | n + 1 => by
    rw [List.replicate_succ, List.replicate_succ, List.flatten_cons, List.flatten_cons]
    exact dpsApp h (dpsRep h n)
theorem ze_repT {ds : List PyData} {k : Int} (hne : ds ≠ []) (h1 : 1 ≤ k) (h2 : k ≤ 1000) (hz : ds.length ≤ 1000) (ha : ZE X a s (.d (.tuple ds)) s1) (hb : ZE X b s1 (.d (.int k)) s2) : ZE X (.BinOp a .Mult b pos) s (.d (.tuple (List.replicate k.toNat ds).flatten)) s2 :=
  ze_op op_repQ ha hb fun u w T σ ρ H Q g va vb kk => by
    have e1 := see_int (i := k) (v := w) g List.mem_cons_self
    subst e1
    obtain ⟨F, p, vs, e1, hs, hd, f⟩ := g.seeT (List.mem_cons_of_mem _ List.mem_cons_self) (.d _)
    subst e1
    refine ⟨_, k, vs, rfl, rfl, hs, fun e => hne ?_, h1, h2, by rw [dpsLen hd]; exact hz, fun e => ?_, fun _ p hp => kk _ ρ _ (pre_refl ρ) trivial (g.out2 (f.tup (dpsRep hd _) hp))⟩
    · subst e; cases hd; rfl
    · subst e
      refine kk _ ρ H (pre_refl ρ) trivial ?_
      have e0 : (List.replicate (1 : Int).toNat ds).flatten = ds := by simp
      rw [e0]
      exact g.tdrop

/-! ### memos whose answers change -/
theorem storedH_mem2 {xs : List DEn} {d : PyData} {b : Addr} {u : Value} {e : DEn} (h : e ∈ storedH xs d b u) : (e ∈ xs ∧ e.1 ≠ d) ∨ e = (d, b, u) ∨ ∃ z ∈ xs, z.1 = d ∧ e = (d, z.2.1, u) := by
  unfold storedH at h
  split at h
  · obtain ⟨z, hz, e1⟩ := List.mem_map.mp h
    unfold putAt at e1
    split at e1
    · rename_i hd
      subst e1
      exact .inr (.inr ⟨z, hz, hd, by rw [hd]⟩)
    · rename_i hd
      subst e1
      exact .inl ⟨hz, hd⟩
  · rename_i hn
    rcases List.mem_append.mp h with h | h
    · refine .inl ⟨h, fun e => hn ?_⟩
      unfold atKey
      rw [Option.isSome_map, List.find?_isSome]
      exact ⟨_, h, by simpa using e⟩
    · exact .inr (.inl (by simpa using h))
theorem Sat.memoC {K : PySem.W.Frag} {pr : Program} {w : World} {f f' : PyData → PyData → Prop} {σ : L2.St} {ρ : List V} {T : List En} {H : Hp} {o : Nat} {v : V} {O : Own} (g : Sat K s σ ρ T H) (ho : s.R[o]? = some O) (hO : OLe O (OM pr w f)) (hv : ρ[o]? = some v) :
    ∃ F p xs, v = .ref p ∧ H p = some (DxO pr w p xs) ∧ Ext F H ∧ (∀ {x u}, (IT.d x, some u) ∈ T → Dp K F u x) ∧ (∀ e ∈ xs, KyD K F e.2.1 e.1 ∧ ∃ vv dv, RelV vv e.2.2 ∧ Dp K F vv dv ∧ f e.1 dv) ∧
      ∀ d b u vv dv, (∀ k x, f k x → k ≠ d → f' k x) → KyD K F b d → RelV vv u → Dp K F vv dv → f' d dv → Sat K ⟨s.e, s.R.set o (OMk pr w f' d)⟩ σ ρ T (upd H p (DxO pr w p (storedH xs d b u))) := by
  obtain ⟨v', e2, ok, bk⟩ := g.obj ho
  have ev : v' = v := Option.some.inj (e2.symm.trans hv)
  subst ev
  obtain ⟨F, L, e1, g1⟩ := ok
  cases L with
  | nil => simp at e1
  | cons z L =>
    obtain ⟨z1, fp⟩ := z
    simp at e1
    obtain ⟨e3, e4⟩ := e1
    subst e3
    obtain ⟨u, e5, h0⟩ := g1.ent _ List.mem_cons_self
    have e5' : v' = u := Option.some.inj e5
    subst e5'
    obtain ⟨p, xs, h1, h2, h3, h4⟩ := hO _ _ _ _ _ h0
    have nd := g1.nd
    have ow := g1.own
    unfold fpsOf at nd ow
    rw [List.flatMap_cons] at nd ow
    have h2' : fp = [p] := h2
    subst h2'
    have fz : Fz K F (T ++ (ES s.e σ ++ (RS s.R ρ).set o (IT.un, some v'))) H := ⟨L, e4, g1.tail⟩
    refine ⟨F, p, xs, h1, h3, g1.ext, fun {x u} m => ?_, h4, fun d b u vv dv hff hb hu hd hf => bk _ _ ⟨F, (((IT.o (OMk pr w f' d), some v'), [p]) :: L), by rw [List.map_cons, e4], ?_⟩⟩
    · obtain ⟨u', e6, hd⟩ := fz.at (List.mem_append_left _ m)
      cases e6
      exact hd
    · refine g1.change (H' := upd H p (DxO pr w p (storedH xs d b u))) (Q := OMk pr w f' d) ⟨p, _, h1, rfl, upd_same, storedH_has, fun e he => ?_⟩ (fun a o' ha e => ?_) fun a ha => ?_
      · rcases storedH_mem2 he with ⟨q, qn⟩ | q | ⟨z, hz, q1, q2⟩
        · obtain ⟨a1, vv, dv, a2, a3, a4⟩ := h4 e q
          exact ⟨a1, vv, dv, a2, a3, hff _ _ a4 qn⟩
        · subst q
          exact ⟨hb, vv, dv, hu, hd, hf⟩
        · subst q2
          have := (h4 z hz).1
          rw [q1] at this
          exact ⟨this, vv, dv, hu, hd, hf⟩
      · rw [upd_ne (by simpa using ha)]; exact e
      · have e : a = p := by simpa using ha
        subst e
        exact ⟨_, upd_same⟩
theorem zss_memoC {tpos : Pos} {U : List PyData} {f f' : PyData → PyData → Prop} {O : Own} (he : ZE X e s (.d x) s1) (ha : ZE X a s1 (.r o) s2) (hb : ZE X b s2 (.d (.tuple ds)) s3) (ho : s3.R[o]? = some O) (hO : OLe O (OM X.prog X.w f)) (hff : ∀ k v, f k v → k ≠ .tuple ds → f' k v) (hf : f' (.tuple ds) x) (hU : ∀ k v, f k v → k ∈ U) (hz : U.length < sizeLine) (k1 : kOK (.tuple ds) = true) (k2 : dep (.tuple ds) ≤ 8) (hu : X.A.units + 20 < cLine)
    (k : ZSs X rest ⟨s3.e, s3.R.set o (OMk X.prog X.w f' (.tuple ds))⟩ P)
    (hsub : ∀ v, assign (.Subscript a b tpos) X.env v = (do
      let ov ← holding [v] (eval a X.env)
      let iv ← holding [v, ov] (eval b X.env)
      standAt tpos
      holding [v, ov, iv] (setItem ov iv v)
      release [v, ov, iv] []) := by intro _; rfl)
    (hs : swapsWithSole [.Subscript a b tpos] e pos.line X.env = pure false := by rfl) (hw : swappedStores [.Subscript a b tpos] e X.env = pure none := by rfl) (h1 : (assignEach [.Subscript a b tpos] X.env).map (·.2) = [assign (.Subscript a b tpos) X.env] := by rfl) :
    ZSs X (.Assign [.Subscript a b tpos] e pos :: rest) s P := by
  refine zss_seq (M := fun t => t = ⟨s3.e, s3.R.set o (OMk X.prog X.w f' (.tuple ds))⟩) (PS.imp (ps_asg he (pg_sub ha hb (put_X hu) hsub) hs hw h1) fun D σ H ⟨t, T, ρ, e1, hb0, g, q⟩ => ?_) fun t e => by subst e; exact k
  subst e1
  refine ⟨T, ρ, g, fun v ρ1 H1 p1 vr1 g1 => ⟨_, ρ1, g1, fun u ρ2 H2 p2 vr2 g2 => ⟨_, ρ2, g2, fun w ρ3 H3 p3 vr3 g3 => ?_⟩⟩⟩
  obtain ⟨F, p, xs, e1, hp, ex, dp, hx, put⟩ := g3.memoC (f' := f') ho hO (VR.mono (r := .r o) vr2 p3)
  subst e1
  obtain ⟨b', e2, hk⟩ := kyd (dp (x := .tuple ds) (u := w) List.mem_cons_self) k1 k2
  subst e2
  have hv : Dp X.K F v x := dp (List.mem_cons_of_mem _ (List.mem_cons_of_mem _ List.mem_cons_self))
  refine ⟨p, b', xs, _, rfl, rfl, hp, fun e he => (hx e he).1.up ex, hk.up ex, ⟨U, hz, fun e he => let ⟨_, _, _, _, _, h⟩ := hx e he; hU _ _ h⟩, fun val rv => q.nx _ σ ρ3 _ rfl ((List.take_prefix _ _).trans ((p1.trans p2).trans p3)) (put _ b' val v x hff hk rv hv hf).tdrop.tdrop.tdrop⟩
end
end Z

namespace Z
open PySem L2 PyProof.Rows

/-! ### dicts of answers, with the keys that are there -/
section
variable {X : Cx} {e a b c : Expr} {es : List Expr} {st : Stmt} {rest body : List Stmt} {s s' s1 s2 s3 : S} {r : SD} {rs : List SD} {pos p : Pos} {P : Po} {ds : List PyData} {x y : PyData} {f f' : PyData → PyData → Prop} {D D' : PyData → Prop} {o : Nat}
theorem ZE.wkO {O Q : Own} (h : ZE X e s r s1) (hj : s1.R[o]? = some O) (hq : OLe O Q) : ZE X e s r ⟨s1.e, s1.R.set o Q⟩ :=
  PE.imp h fun σ H Q' ⟨T, ρ, g, q⟩ => ⟨T, ρ, g, fun v ρ' H' pp vr g' => q v ρ' H' pp vr (g'.wkO hj hq)⟩
/-- a dict of answers: each told answer is right, each key of D is there -/
def OMs (pr : Program) (w : World) (f : PyData → PyData → Prop) (D : PyData → Prop) : Own where
  holds := fun K F H v fp => ∃ p xs, v = .ref p ∧ fp = [p] ∧ H p = some (DxO pr w p xs) ∧ (∀ d, D d → (atKey xs d).isSome = true) ∧ ∀ e ∈ xs, KyD K F e.2.1 e.1 ∧ ∃ vv dv, RelV vv e.2.2 ∧ Dp K F vv dv ∧ f e.1 dv
  stay := fun ⟨p, xs, e1, e2, e3, e0, e4⟩ e k => ⟨p, xs, e1, e2, k p (by rw [e2]; simp) _ e3, e0, fun z hz => let ⟨⟨a1, a2, a3⟩, vv, dv, a4, a5, a6⟩ := e4 z hz; ⟨⟨dpUp e _ _ a1, a2, a3⟩, vv, dv, a4, dpUp e _ _ a5, a6⟩⟩
theorem OMs.le {pr : Program} {w : World} (h1 : ∀ k v, f k v → f' k v) (h2 : ∀ d, D' d → D d) : OLe (OMs pr w f D) (OMs pr w f' D') := fun K F H v fp ⟨p, xs, e1, e2, e3, e0, e4⟩ => ⟨p, xs, e1, e2, e3, fun d hd => e0 d (h2 d hd), fun z hz => let ⟨a1, vv, dv, a4, a5, a6⟩ := e4 z hz; ⟨a1, vv, dv, a4, a5, h1 _ _ a6⟩⟩
theorem ze_newS (f : PyData → PyData → Prop) : ZE X (.Dict [] [] pos) s (.r s.R.length) ⟨s.e, s.R ++ [OMs X.prog X.w f fun _ => False]⟩ :=
  PE.imp pe_newX fun σ H Q ⟨T, ρ, g, k⟩ => fun p hp => by
    refine k _ (ρ ++ [.ref p]) _ (List.prefix_append _ _) g.newVR (Sat.tun ?_)
    obtain ⟨F, f1⟩ := g.ok.fz
    exact Sat.push (f1.newO hp ⟨p, [], rfl, rfl, upd_same, fun _ h => h.elim, fun e he => by simp at he⟩) g.le g.lr g.al
theorem storedH_keep {xs : List DEn} {d d' : PyData} {b : Addr} {u : Value} (h : (atKey xs d').isSome = true) : (atKey (storedH xs d b u) d').isSome = true := by
  unfold storedH
  unfold atKey at h ⊢
  rw [Option.isSome_map, List.find?_isSome] at h
  obtain ⟨z, hz, e⟩ := h
  have e1 : z.1 = d' := of_decide_eq_true e
  split
  · rw [Option.isSome_map, List.find?_isSome]
    refine ⟨putAt d u z, List.mem_map.mpr ⟨z, hz, rfl⟩, ?_⟩
    unfold putAt
    split
    · rename_i hd
      exact decide_eq_true e1
    · exact e
  · rw [Option.isSome_map, List.find?_isSome]
    exact ⟨z, List.mem_append_left _ hz, e⟩
theorem Sat.memoS {K : PySem.W.Frag} {pr : Program} {w : World} {σ : L2.St} {ρ : List V} {T : List En} {H : Hp} {o : Nat} {v : V} (g : Sat K s σ ρ T H) (ho : s.R[o]? = some (OMs pr w f D)) (hv : ρ[o]? = some v) :
    ∃ F p xs, v = .ref p ∧ H p = some (DxO pr w p xs) ∧ Ext F H ∧ (∀ {x u}, (IT.d x, some u) ∈ T → Dp K F u x) ∧ (∀ d, D d → (atKey xs d).isSome = true) ∧ (∀ e ∈ xs, KyD K F e.2.1 e.1 ∧ ∃ vv dv, RelV vv e.2.2 ∧ Dp K F vv dv ∧ f e.1 dv) ∧
      (∀ d, (atKey xs d).isSome = true → Sat K ⟨s.e, s.R.set o (OMs pr w f fun x => x = d ∨ D x)⟩ σ ρ T H) ∧ (∀ {x u}, Dp K F u x → Sat K s σ ρ ((IT.d x, some u) :: T) H) ∧
      ∀ (f' : PyData → PyData → Prop) d b u vv dv, (∀ k x, f k x → k ≠ d → f' k x) → KyD K F b d → RelV vv u → Dp K F vv dv → f' d dv → Sat K ⟨s.e, s.R.set o (OMs pr w f' fun x => x = d ∨ D x)⟩ σ ρ T (upd H p (DxO pr w p (storedH xs d b u))) := by
  obtain ⟨v', e2, ok, bk⟩ := g.obj ho
  have ev : v' = v := Option.some.inj (e2.symm.trans hv)
  subst ev
  obtain ⟨F, L, e1, g1⟩ := ok
  cases L with
  | nil => simp at e1
  | cons z L =>
    obtain ⟨z1, fp⟩ := z
    simp at e1
    obtain ⟨e3, e4⟩ := e1
    subst e3
    obtain ⟨u, e5, h0⟩ := g1.ent _ List.mem_cons_self
    have e5' : v' = u := Option.some.inj e5
    subst e5'
    obtain ⟨p, xs, h1, h2, h3, hD, h4⟩ := h0
    have nd := g1.nd
    have ow := g1.own
    unfold fpsOf at nd ow
    rw [List.flatMap_cons] at nd ow
    obtain ⟨n1, n2, n3⟩ := List.nodup_append.mp nd
    have h2' : fp = [p] := h2
    subst h2'
    have fz : Fz K F (T ++ (ES s.e σ ++ (RS s.R ρ).set o (IT.un, some v'))) H := ⟨L, e4, g1.tail⟩
    refine ⟨F, p, xs, h1, h3, g1.ext, fun {x u} m => ?_, hD, h4, fun d hd => bk H _ ⟨F, (((IT.o (OMs pr w f fun x => x = d ∨ D x), some v'), [p]) :: L), by rw [List.map_cons, e4], ?_⟩, fun {x u} hx => ?_, fun f' d b u vv dv hff hb hu hd hf => bk _ _ ⟨F, (((IT.o (OMs pr w f' fun x => x = d ∨ D x), some v'), [p]) :: L), by rw [List.map_cons, e4], ?_⟩⟩
    · obtain ⟨u', e6, hd⟩ := fz.at (List.mem_append_left _ m)
      cases e6
      exact hd
    · exact g1.tail.oCons ⟨p, xs, h1, rfl, h3, fun d' hd' => hd'.elim (fun e => by rw [e]; exact hd) (hD d'), h4⟩ n1 (fun a ha hb => n3 a ha a hb rfl) fun a ha => ow a (List.mem_append_left _ ha)
    · have whole : Fz K F ((IT.o (OMs pr w f D), some v') :: (T ++ (ES s.e σ ++ (RS s.R ρ).set o (IT.un, some v')))) H := ⟨(((IT.o (OMs pr w f D), some v'), [p]) :: L), by rw [List.map_cons, e4], g1⟩
      have a1 := (whole.add hx).ok
      have a2 : OK K ((IT.o (OMs pr w f D), some v') :: (((IT.d x, some u) :: T) ++ (ES s.e σ ++ (RS s.R ρ).set o (IT.un, some v')))) H := a1.perm (List.Perm.swap _ _ _)
      have b := ZE.frz.back2 (T2 := (IT.d x, some u) :: T) g ho hv a2
      rw [set_self ho] at b
      exact b
    · refine g1.change (H' := upd H p (DxO pr w p (storedH xs d b u))) (Q := OMs pr w f' fun x => x = d ∨ D x) ⟨p, _, h1, rfl, upd_same, fun d' hd' => hd'.elim (fun e => by rw [e]; exact storedH_has) (fun q => storedH_keep (hD d' q)), fun e he => ?_⟩ (fun a o' ha e => ?_) fun a ha => ?_
      · rcases storedH_mem2 he with ⟨q, qn⟩ | q | ⟨z, hz, q1, q2⟩
        · obtain ⟨a1, vv, dv, a2, a3, a4⟩ := h4 e q
          exact ⟨a1, vv, dv, a2, a3, hff _ _ a4 qn⟩
        · subst q
          exact ⟨hb, vv, dv, hu, hd, hf⟩
        · subst q2
          have := (h4 z hz).1
          rw [q1] at this
          exact ⟨this, vv, dv, hu, hd, hf⟩
      · rw [upd_ne (by simpa using ha)]; exact e
      · have e : a = p := by simpa using ha
        subst e
        exact ⟨_, upd_same⟩
theorem zt_inS (ho : s2.R[o]? = some (OMs X.prog X.w f D)) (ha : ZE X a s (.d (.tuple ds)) s1) (hb : ZE X b s1 (.r o) s2) (k1 : kOK (.tuple ds) = true) (k2 : dep (.tuple ds) ≤ 8) (hu : X.A.units + 20 < cLine) (hm : behindInMarks .In b = false := by rfl) :
    ZT X (.Compare a [.In] [b] pos) s (fun k t => t = if k = true then ⟨s2.e, s2.R.set o (OMs X.prog X.w f fun x => x = .tuple ds ∨ D x)⟩ else s2) := by
  refine PT.imp (pt_cmpR (op_inX hu) ha hb hm) fun σ H Q ⟨T, ρ, g, q⟩ => ⟨T, ρ, g, fun u ρ1 H1 p1 vr1 g1 => ⟨_, ρ1, g1, fun w ρ2 H2 p2 vr2 g2 => ?_⟩⟩
  obtain ⟨F, p, xs, e1, hp, ex, dp, _, hx, kn, _, _⟩ := g2.memoS ho vr2
  subst e1
  obtain ⟨b', e2, hk⟩ := kyd (dp (x := .tuple ds) (u := u) (List.mem_cons_of_mem _ List.mem_cons_self)) k1 k2
  subst e2
  refine ⟨p, b', xs, _, rfl, rfl, hp, fun e he => (hx e he).1.up ex, hk.up ex, _, rfl, ?_⟩
  rw [if_neg Bool.false_ne_true]
  cases hc : (atKey xs (PyData.tuple ds)).isSome with
  | true => exact q true _ ρ2 H2 (if_pos rfl).symm (p1.trans p2) (kn _ hc).tdrop.tdrop
  | false => exact q false _ ρ2 H2 (if_neg Bool.false_ne_true).symm (p1.trans p2) g2.tdrop.tdrop
theorem zt_ninS (ho : s2.R[o]? = some (OMs X.prog X.w f D)) (ha : ZE X a s (.d (.tuple ds)) s1) (hb : ZE X b s1 (.r o) s2) (k1 : kOK (.tuple ds) = true) (k2 : dep (.tuple ds) ≤ 8) (hu : X.A.units + 20 < cLine) (hm : behindInMarks .NotIn b = false := by rfl) :
    ZT X (.Compare a [.NotIn] [b] pos) s (fun k t => t = if k = true then s2 else ⟨s2.e, s2.R.set o (OMs X.prog X.w f fun x => x = .tuple ds ∨ D x)⟩) := by
  refine PT.imp (pt_cmpR (op_ninX hu) ha hb hm) fun σ H Q ⟨T, ρ, g, q⟩ => ⟨T, ρ, g, fun u ρ1 H1 p1 vr1 g1 => ⟨_, ρ1, g1, fun w ρ2 H2 p2 vr2 g2 => ?_⟩⟩
  obtain ⟨F, p, xs, e1, hp, ex, dp, _, hx, kn, _, _⟩ := g2.memoS ho vr2
  subst e1
  obtain ⟨b', e2, hk⟩ := kyd (dp (x := .tuple ds) (u := u) (List.mem_cons_of_mem _ List.mem_cons_self)) k1 k2
  subst e2
  refine ⟨p, b', xs, _, rfl, rfl, hp, fun e he => (hx e he).1.up ex, hk.up ex, _, rfl, ?_⟩
  rw [if_pos rfl]
  cases hc : (atKey xs (PyData.tuple ds)).isSome with
  | true => exact q false _ ρ2 H2 (if_neg Bool.false_ne_true).symm (p1.trans p2) (kn _ hc).tdrop.tdrop
  | false => exact q true _ ρ2 H2 (if_pos rfl).symm (p1.trans p2) g2.tdrop.tdrop
/-- memo[key], the key there -/
theorem ze_memoS (ho : s2.R[o]? = some (OMs X.prog X.w f D)) (hD : D (.tuple ds)) (hf : ∀ y, f (.tuple ds) y → y = x) (ha : ZE X a s (.r o) s1) (hb : ZE X b s1 (.d (.tuple ds)) s2) (k1 : kOK (.tuple ds) = true) (k2 : dep (.tuple ds) ≤ 8) (hu : X.A.units + 20 < cLine) (hs : PlainIx b := by intro _ _; rfl) :
    ZE X (.Subscript a b pos) s (.d x) s2 := by
  refine PE.imp (pe_ix (ix_X hu) ha hb hs) fun σ H Q ⟨T, ρ, g, q⟩ => ⟨T, ρ, g, fun u ρ1 H1 p1 vr1 g1 => ⟨_, ρ1, g1, fun w ρ2 H2 p2 vr2 g2 => ?_⟩⟩
  obtain ⟨F, p, xs, e1, hp, ex, dp, kD, hx, _, top, _⟩ := g2.memoS ho (VR.mono (r := .r o) vr1 p2)
  subst e1
  obtain ⟨b', e2, hk⟩ := kyd (dp (x := .tuple ds) (u := w) List.mem_cons_self) k1 k2
  subst e2
  obtain ⟨⟨c, val⟩, hc⟩ := Option.isSome_iff_exists.mp (kD _ hD)
  have hm : (PyData.tuple ds, c, val) ∈ xs := by
    unfold atKey at hc
    obtain ⟨z, hz, e⟩ := Option.map_eq_some_iff.mp hc
    have h1 := List.mem_of_find?_eq_some hz
    have h0 := List.find?_some (p := fun x : DEn => decide (x.fst = PyData.tuple ds)) hz
    have h2 : z.1 = PyData.tuple ds := of_decide_eq_true h0
    rw [← h2, show (z.1, c, val) = z by rw [← e]]
    exact h1
  obtain ⟨_, vv, dv, r1, r2, r3⟩ := hx _ hm
  have ed : dv = x := hf dv r3
  subst ed
  refine ⟨p, b', xs, _, c, val, vv, rfl, rfl, hp, fun e he => (hx e he).1.up ex, hk.up ex, hc, r1, q vv ρ2 H2 (p1.trans p2) trivial ?_⟩
  have b2 := top r2
  exact (b2.tperm ((List.perm_append_comm (l₁ := [(IT.d dv, some vv)]) (l₂ := [(IT.d (.tuple ds), some (.ref b')), (itOf (SD.r o), some (V.ref p))])).append_right T)).tdrops (T1 := [(IT.d (.tuple ds), some (.ref b')), (itOf (SD.r o), some (V.ref p))])
/-- memo[key] = value -/
theorem zss_memoS {tpos : Pos} {U : List PyData} (he : ZE X e s (.d x) s1) (ha : ZE X a s1 (.r o) s2) (hb : ZE X b s2 (.d (.tuple ds)) s3) (ho : s3.R[o]? = some (OMs X.prog X.w f D)) (f' : PyData → PyData → Prop) (hff : ∀ k v, f k v → k ≠ .tuple ds → f' k v) (hf : f' (.tuple ds) x) (hU : ∀ k v, f k v → k ∈ U) (hz : U.length < sizeLine) (k1 : kOK (.tuple ds) = true) (k2 : dep (.tuple ds) ≤ 8) (hu : X.A.units + 20 < cLine)
    (k : ZSs X rest ⟨s3.e, s3.R.set o (OMs X.prog X.w f' fun x => x = .tuple ds ∨ D x)⟩ P)
    (hsub : ∀ v, assign (.Subscript a b tpos) X.env v = (do
      let ov ← holding [v] (eval a X.env)
      let iv ← holding [v, ov] (eval b X.env)
      standAt tpos
      holding [v, ov, iv] (setItem ov iv v)
      release [v, ov, iv] []) := by intro _; rfl)
    (hs : swapsWithSole [.Subscript a b tpos] e pos.line X.env = pure false := by rfl) (hw : swappedStores [.Subscript a b tpos] e X.env = pure none := by rfl) (h1 : (assignEach [.Subscript a b tpos] X.env).map (·.2) = [assign (.Subscript a b tpos) X.env] := by rfl) :
    ZSs X (.Assign [.Subscript a b tpos] e pos :: rest) s P := by
  refine zss_seq (M := fun t => t = ⟨s3.e, s3.R.set o (OMs X.prog X.w f' fun x => x = .tuple ds ∨ D x)⟩) (PS.imp (ps_asg he (pg_sub ha hb (put_X hu) hsub) hs hw h1) fun DD σ H ⟨t, T, ρ, e1, hb0, g, q⟩ => ?_) fun t e => by subst e; exact k
  subst e1
  refine ⟨T, ρ, g, fun v ρ1 H1 p1 vr1 g1 => ⟨_, ρ1, g1, fun u ρ2 H2 p2 vr2 g2 => ⟨_, ρ2, g2, fun w ρ3 H3 p3 vr3 g3 => ?_⟩⟩⟩
  obtain ⟨F, p, xs, e1, hp, ex, dp, _, hx, _, _, put⟩ := g3.memoS ho (VR.mono (r := .r o) vr2 p3)
  subst e1
  obtain ⟨b', e2, hk⟩ := kyd (dp (x := .tuple ds) (u := w) List.mem_cons_self) k1 k2
  subst e2
  have hv : Dp X.K F v x := dp (List.mem_cons_of_mem _ (List.mem_cons_of_mem _ List.mem_cons_self))
  refine ⟨p, b', xs, _, rfl, rfl, hp, fun e he => (hx e he).1.up ex, hk.up ex, ⟨U, hz, fun e he => let ⟨_, _, _, _, _, h⟩ := hx e he; hU _ _ h⟩, fun val rv => q.nx _ σ ρ3 _ rfl ((List.take_prefix _ _).trans ((p1.trans p2).trans p3)) (put f' _ b' val v x hff hk rv hv hf).tdrop.tdrop.tdrop⟩
end
end Z

namespace Z
open PySem L2 PyProof.Rows

/-! ### a list of its own that is no longer changed: from now on a datum -/
section
variable {X : Cx} {rest : List Stmt} {s s1 : S} {P : Po} {ds : List PyData} {o : Nat}
def ODead : Own where
  holds := fun _ _ _ _ fp => fp = []
  stay := fun h _ _ => h
theorem OK.dead {K : PySem.W.Frag} {l : List En} {H : Hp} {v : V} (h : OK K l H) : OK K ((IT.o ODead, some v) :: l) H := by
  obtain ⟨F, L, e, g⟩ := h
  exact ⟨F, (((IT.o ODead, some v), []) :: L), by rw [List.map_cons, e], g.oCons rfl List.nodup_nil (fun a ha => by cases ha) (fun a ha => by cases ha)⟩
theorem Sat.slots {K : PySem.W.Frag} {σ : L2.St} {ρ : List V} {T : List En} {H : Hp} {v : V} {x : PyData} : ∀ (is : List Nat) {s : S}, is.Nodup → (∀ i ∈ is, s.e[i]? = some (.r o)) → Sat K s σ ρ ((IT.d x, some v) :: T) H → ρ[o]? = some v → Sat K ⟨is.foldl (fun e i => e.set i (.d x)) s.e, s.R⟩ σ ρ ((IT.d x, some v) :: T) H
  | [], s, _, _, g, _ => g
  | i :: is, s, nd, hi, g, hv => by
    have h0 := hi i List.mem_cons_self
    obtain ⟨u, e1, e2⟩ := g.al i o h0
    have eu : u = v := Option.some.inj (e2.symm.trans hv)
    subst eu
    obtain ⟨u', e3, _, ok⟩ := g.ok.dup (x := x) (v := some u) (List.mem_append_left _ List.mem_cons_self)
    cases e3
    have g2 : Sat K s σ ρ ((itOf (SD.d x), some u) :: ((IT.d x, some u) :: T)) H := ⟨g.le, g.lr, g.al, ok⟩
    have g3 := Sat.put (i := i) (r := .d x) (List.getElem?_eq_some_iff.mp h0).1 trivial g2
    rw [set_self e1] at g3
    have nd' := List.nodup_cons.mp nd
    exact Sat.slots is (s := ⟨s.e.set i (.d x), s.R⟩) nd'.2 (fun k hk => by
      show (s.e.set i (.d x))[k]? = _
      rw [List.getElem?_set_ne (fun e => nd'.1 (by rw [e]; exact hk))]
      exact hi k (List.mem_cons_of_mem _ hk)) g3 hv
theorem zss_frz (is : List Nat) (nd : is.Nodup) (hi : ∀ i ∈ is, s.e[i]? = some (.r o)) (ho : s.R[o]? = some (OL ds)) (lw : low o (is.foldl (fun e i => e.set i (.d (.list ds))) s.e)) (hb : P.b ≤ o) (k : ZSs X rest ⟨is.foldl (fun e i => e.set i (.d (.list ds))) s.e, s.R.take o⟩ P) : ZSs X rest s P := PSs.imp k fun D σ H ⟨t, T, ρ, e1, hb0, g, q⟩ => by
  subst e1
  obtain ⟨v, hv, ok, _⟩ := g.obj ho
  obtain ⟨F, f⟩ := ok.fz
  have a1 := OK.dead (v := v) f.freeze
  have g2 := ZE.frz.back2 (T2 := (IT.d (.list ds), some v) :: T) g ho hv a1
  have g3 := Sat.slots (s := ⟨t.e, t.R.set o ODead⟩) is nd hi g2 hv
  have g4 := (g3.trim (n := o) (wkE_refl _) lw).tdrop
  rw [show (⟨is.foldl (fun e i => e.set i (.d (.list ds))) t.e, t.R.set o ODead⟩ : S).R.take o = t.R.take o from List.take_set_of_le (Nat.le_refl _)] at g4
  refine ⟨_, T, ρ.take o, rfl, ?_, g4, ?_⟩
  · rw [List.length_take]
    have := (List.getElem?_eq_some_iff.mp hv).1
    omega
  · rw [List.take_take, Nat.min_eq_left hb]
    exact q
end
end Z

namespace N
open PySem L2 PyProof.Rows
open Z (Ext dpUp dpsUp dpsLen dpsGet DxO KyD DEn)

/-! ### values, stores -/
/-- a value: a datum, or a reference to an object of the store -/
inductive D where
  | d (x : PyData) | r (j : Nat)
/-- an object of the store: a list; a dict with tuples as keys; one with ints and texts; a set of ints; nothing known -/
inductive Cell where
  | lst (ds : List D) | dic (kvs : List (PyData × D)) | dk (kvs : List (Key × D)) | gone
abbrev Sto := List Cell
abbrev Lo := List (Option D)
structure Ba where
  P : Program
  w : World
  K : PySem.W.Frag
structure W where
  F : Hp
  ρ : List Addr
structure W.le (w w' : W) : Prop where
  F : Ext w.F w'.F
  ρ : w.ρ <+: w'.ρ
theorem W.le.refl (w : W) : w.le w := ⟨Ext.refl _, List.prefix_rfl⟩
theorem W.le.trans {a b c : W} (h : a.le b) (g : b.le c) : a.le c := ⟨h.F.trans g.F, h.ρ.trans g.ρ⟩
abbrev W.take (w : W) (n : Nat) : W := ⟨w.F, w.ρ.take n⟩
theorem W.take_le (w : W) (n : Nat) : (w.take n).le w := ⟨Ext.refl _, List.take_prefix _ _⟩

def VR (B : Ba) (w : W) (v : V) : D → Prop
  | .d x => Dp B.K w.F v x
  | .r j => ∃ a, w.ρ[j]? = some a ∧ v = .ref a
def VRs (B : Ba) (w : W) : List V → List D → Prop
  | [], [] => True
  | v :: vs, d :: ds => VR B w v d ∧ VRs B w vs ds
  | _, _ => False
def DR (B : Ba) (w : W) : List DEn → List (PyData × D) → Prop
  | [], [] => True
  | e :: xs, kv :: kvs => (e.1 = kv.1 ∧ KyD B.K w.F e.2.1 e.1 ∧ ∃ vv, RelV vv e.2.2 ∧ VR B w vv kv.2) ∧ DR B w xs kvs
  | _, _ => False
def KR (B : Ba) (w : W) : List (Key × V) → List (Key × D) → Prop
  | [], [] => True
  | e :: xs, kv :: kvs => (e.1 = kv.1 ∧ VR B w e.2 kv.2) ∧ KR B w xs kvs
  | _, _ => False
def CR (B : Ba) (w : W) (H : Hp) (a : Addr) : Cell → Prop
  | .lst ds => w.F a = none ∧ ∃ vs, H a = some (.lst vs) ∧ VRs B w vs ds
  | .dic kvs => w.F a = none ∧ ∃ xs, H a = some (DxO B.P B.w a xs) ∧ DR B w xs kvs
  | .dk kvs => w.F a = none ∧ ∃ xs, H a = some (.dK xs) ∧ KR B w xs kvs
  | .gone => True
structure Ok (B : Ba) (w : W) (s : Sto) (H : Hp) : Prop where
  ext : Ext w.F H
  lr : w.ρ.length = s.length
  nd : w.ρ.Nodup
  al : ∀ a ∈ w.ρ, ∃ o, H a = some o
  ce : ∀ (j : Nat) (c : Cell) (a : Addr), s[j]? = some c → w.ρ[j]? = some a → CR B w H a c
structure Sl (B : Ba) (w : W) (e : Lo) (σ : L2.St) : Prop where
  le : e.length = σ.length
  sl : ∀ (i : Nat) (d : D), e[i]? = some (some d) → ∃ v, σ[i]? = some (some v) ∧ VR B w v d

section
variable {B : Ba} {w w' : W} {H H' : Hp} {e : Lo} {s : Sto} {σ : L2.St} {v : V} {d : D} {vs : List V} {ds : List D}
theorem pre_get {α : Type} {l m : List α} (p : l <+: m) {i : Nat} {a : α} (h : l[i]? = some a) : m[i]? = some a := by
  obtain ⟨k, rfl⟩ := p
  rw [List.getElem?_append_left (List.getElem?_eq_some_iff.mp h).1]
  exact h
theorem VR.up (l : w.le w') : ∀ {d : D}, VR B w v d → VR B w' v d
  | .d x, h => dpUp l.F x v h
  | .r j, ⟨a, h1, h2⟩ => ⟨a, pre_get l.ρ h1, h2⟩
theorem VRs.up (l : w.le w') : ∀ {vs : List V} {ds : List D}, VRs B w vs ds → VRs B w' vs ds
  | [], [], _ => trivial
  | v :: vs, d :: ds, ⟨h1, h2⟩ => ⟨h1.up l, VRs.up l h2⟩
  | [], _ :: _, h => h.elim
  | _ :: _, [], h => h.elim
theorem DR.up (l : w.le w') : ∀ {xs : List DEn} {kvs : List (PyData × D)}, DR B w xs kvs → DR B w' xs kvs
  | [], [], _ => trivial
  | e :: vs, d :: ds, ⟨⟨h1, ⟨h2, h3⟩, vv, h4, h5⟩, h6⟩ => ⟨⟨h1, ⟨dpUp l.F _ _ h2, h3⟩, vv, h4, h5.up l⟩, DR.up l h6⟩
  | [], _ :: _, h => h.elim
  | _ :: _, [], h => h.elim
theorem KR.up (l : w.le w') : ∀ {xs : List (Key × V)} {kvs : List (Key × D)}, KR B w xs kvs → KR B w' xs kvs
  | [], [], _ => trivial
  | e :: vs, d :: ds, ⟨⟨h1, h2⟩, h6⟩ => ⟨⟨h1, h2.up l⟩, KR.up l h6⟩
  | [], _ :: _, h => h.elim
  | _ :: _, [], h => h.elim
theorem Sl.up (l : w.le w') (h : Sl B w e σ) : Sl B w' e σ := ⟨h.le, fun i d q => let ⟨v, h1, h2⟩ := h.sl i d q; ⟨v, h1, h2.up l⟩⟩
theorem VRs.len : ∀ {vs : List V} {ds : List D}, VRs B w vs ds → vs.length = ds.length
  | [], [], _ => rfl
  | v :: vs, d :: ds, ⟨h1, h2⟩ => by simp [VRs.len h2]
  | [], _ :: _, h => h.elim
  | _ :: _, [], h => h.elim
theorem VRs.get : ∀ {vs : List V} {ds : List D} {i : Nat} {d : D}, VRs B w vs ds → ds[i]? = some d → ∃ v, vs[i]? = some v ∧ VR B w v d
  | [], [], i, d, _, h => by simp at h
  | v :: vs, d :: ds, 0, d', ⟨h1, h2⟩, h => by simp at h; subst h; exact ⟨v, rfl, h1⟩
  | v :: vs, d :: ds, i + 1, d', ⟨h1, h2⟩, h => by
    obtain ⟨u, a, b⟩ := VRs.get h2 (i := i) (d := d') (by simpa using h)
    exact ⟨u, by simpa using a, b⟩
  | [], _ :: _, _, _, h, _ => h.elim
  | _ :: _, [], _, _, h, _ => h.elim
theorem VRs.app : ∀ {vs us : List V} {ds es : List D}, VRs B w vs ds → VRs B w us es → VRs B w (vs ++ us) (ds ++ es)
  | [], _, [], _, _, h => h
  | v :: vs, _, d :: ds, _, ⟨h1, h2⟩, h => ⟨h1, VRs.app h2 h⟩
  | [], _, _ :: _, _, h, _ => h.elim
  | _ :: _, _, [], _, h, _ => h.elim
theorem VRs.set (hv : VR B w v d) : ∀ {vs : List V} {ds : List D} (i : Nat), VRs B w vs ds → VRs B w (vs.set i v) (ds.set i d)
  | [], [], _, _ => trivial
  | _ :: _, _ :: _, 0, ⟨_, h2⟩ => ⟨hv, h2⟩
  | _ :: _, _ :: _, i + 1, ⟨h1, h2⟩ => ⟨h1, VRs.set hv i h2⟩
  | [], _ :: _, _, h => h.elim
  | _ :: _, [], _, h => h.elim
theorem VRs.take : ∀ {vs : List V} {ds : List D} (n : Nat), VRs B w vs ds → VRs B w (vs.take n) (ds.take n)
  | _, _, 0, _ => trivial
  | [], [], n + 1, _ => trivial
  | _ :: _, _ :: _, n + 1, ⟨h1, h2⟩ => ⟨h1, VRs.take n h2⟩
  | [], _ :: _, _ + 1, h => h.elim
  | _ :: _, [], _ + 1, h => h.elim
theorem VRs.drop : ∀ {vs : List V} {ds : List D} (n : Nat), VRs B w vs ds → VRs B w (vs.drop n) (ds.drop n)
  | _, _, 0, h => h
  | [], [], n + 1, _ => trivial
  | _ :: _, _ :: _, n + 1, ⟨_, h2⟩ => VRs.drop n h2
  | [], _ :: _, _ + 1, h => h.elim
  | _ :: _, [], _ + 1, h => h.elim
theorem VRs.rev : ∀ {vs : List V} {ds : List D}, VRs B w vs ds → VRs B w vs.reverse ds.reverse
  | [], [], _ => trivial
  | v :: vs, d :: ds, ⟨h1, h2⟩ => by
    rw [List.reverse_cons, List.reverse_cons]
    exact VRs.app (VRs.rev h2) ⟨h1, trivial⟩
  | [], _ :: _, h => h.elim
  | _ :: _, [], h => h.elim
theorem VRs.eraseIdx : ∀ {vs : List V} {ds : List D} (n : Nat), VRs B w vs ds → VRs B w (vs.eraseIdx n) (ds.eraseIdx n)
  | [], [], _, _ => trivial
  | _ :: _, _ :: _, 0, ⟨_, h⟩ => h
  | _ :: _, _ :: _, n + 1, ⟨h1, h2⟩ => ⟨h1, VRs.eraseIdx n h2⟩
  | [], _ :: _, _, h => h.elim
  | _ :: _, [], _, h => h.elim
/-- a row of data -/
theorem VRs.data : ∀ {vs : List V} {xs : List PyData}, VRs B w vs (xs.map .d) ↔ DpAll B.K w.F vs xs
  | [], [] => ⟨fun _ => .nil, fun _ => trivial⟩
  | v :: vs, x :: xs => ⟨fun ⟨h1, h2⟩ => .cons h1 (VRs.data.mp h2), fun h => by cases h with | cons h1 h2 => exact ⟨h1, VRs.data.mpr h2⟩⟩
  | [], _ :: _ => ⟨fun h => h.elim, fun h => by cases h⟩
  | _ :: _, [] => ⟨fun h => h.elim, fun h => by cases h⟩
theorem VRs.below : ∀ {vs : List V} {ds : List D}, VRs B w vs ds → ∀ j, D.r j ∈ ds → j < w.ρ.length
  | [], [], _, j, h => by simp at h
  | v :: vs, d :: ds, ⟨h1, h2⟩, j, h => by
    rcases List.mem_cons.mp h with h | h
    · subst h
      obtain ⟨a, h3, _⟩ := h1
      exact (List.getElem?_eq_some_iff.mp h3).1
    · exact VRs.below h2 j h
  | [], _ :: _, h, _, _ => h.elim
  | _ :: _, [], h, _, _ => h.elim

/-! ### the store -/
theorem Ok.addr (g : Ok B w s H) {j : Nat} {c : Cell} (h : s[j]? = some c) : ∃ a, w.ρ[j]? = some a ∧ CR B w H a c := by
  have hj := (List.getElem?_eq_some_iff.mp h).1
  have h2 : w.ρ[j]? = some (w.ρ[j]'(by rw [g.lr]; exact hj)) := List.getElem?_eq_getElem _
  exact ⟨_, h2, g.ce j c _ h h2⟩
theorem CR.up (l : w.le w') {a : Addr} {c : Cell} (h : CR B w H a c) (hF : w'.F a = none ∨ c = .gone) (hH : ∀ o, H a = some o → H' a = some o) : CR B w' H' a c := by
  cases c with
  | lst ds => obtain ⟨h1, vs, h2, h3⟩ := h; exact ⟨hF.resolve_right (by simp), vs, hH _ h2, h3.up l⟩
  | dic ds => obtain ⟨h1, vs, h2, h3⟩ := h; exact ⟨hF.resolve_right (by simp), vs, hH _ h2, h3.up l⟩
  | dk ds => obtain ⟨h1, vs, h2, h3⟩ := h; exact ⟨hF.resolve_right (by simp), vs, hH _ h2, h3.up l⟩
  | gone => trivial
theorem CR.none {a : Addr} {c : Cell} (h : CR B w H a c) (hc : c ≠ .gone) : w.F a = Option.none := by
  cases c with
  | lst ds => exact h.1
  | dic ds => exact h.1
  | dk ds => exact h.1
  | gone => exact absurd rfl hc
theorem CR.gone {a : Addr} : CR B w H a .gone := trivial
theorem ext_none (g : Ext w.F H) {p : Addr} (hp : H p = none) : w.F p = none := by
  cases q : w.F p with
  | none => rfl
  | some o => rw [g p o q] at hp; cases hp
theorem Ok.notin (g : Ok B w s H) {p : Addr} (hp : H p = none) : p ∉ w.ρ := fun h => by
  obtain ⟨o, ho⟩ := g.al p h
  rw [hp] at ho
  cases ho
/-- a new thing laid down for good -/
theorem Ok.frz (g : Ok B w s H) {p : Addr} {o : HO} (hp : H p = none) : Ok B ⟨upd w.F p o, w.ρ⟩ s (upd H p o) := by
  have l : w.le ⟨upd w.F p o, w.ρ⟩ := ⟨Ext.up (ext_none g.ext hp), List.prefix_rfl⟩
  refine ⟨fun a u q => ?_, g.lr, g.nd, fun a ha => ?_, fun j c a h1 h2 => ?_⟩
  · have q : upd w.F p o a = some u := q
    by_cases e : a = p
    · subst e; rw [upd_same] at q ⊢; exact q
    · rw [upd_ne e] at q ⊢; exact g.ext a u q
  · obtain ⟨u, hu⟩ := g.al a ha
    exact ⟨u, by rw [upd_ne (ne_of_none hu hp)]; exact hu⟩
  · have ha := List.mem_of_getElem? h2
    have ne : a ≠ p := fun e => g.notin hp (e ▸ ha)
    have k := g.ce j c a h1 h2
    refine k.up l ?_ fun o ho => by rw [upd_ne ne]; exact ho
    by_cases hc : c = .gone
    · exact .inr hc
    · left; show upd w.F p _ a = none
      rw [upd_ne ne]; exact k.none hc
theorem Ok.frz_le (g : Ok B w s H) {p : Addr} {o : HO} (hp : H p = none) : w.le ⟨upd w.F p o, w.ρ⟩ := ⟨Ext.up (ext_none g.ext hp), List.prefix_rfl⟩
/-- a new object of the store -/
theorem Ok.new (g : Ok B w s H) {p : Addr} {o : HO} {c : Cell} (hp : H p = none) (hc : CR B ⟨w.F, w.ρ ++ [p]⟩ (upd H p o) p c) : Ok B ⟨w.F, w.ρ ++ [p]⟩ (s ++ [c]) (upd H p o) := by
  have l : w.le ⟨w.F, w.ρ ++ [p]⟩ := ⟨Ext.refl _, List.prefix_append _ _⟩
  refine ⟨fun a u q => ?_, by simp [g.lr], ?_, fun a ha => ?_, fun j c' a h1 h2 => ?_⟩
  · have := g.ext a u q
    rw [upd_ne (ne_of_none this hp)]
    exact this
  · show (w.ρ ++ [p]).Nodup
    rw [List.nodup_append]
    exact ⟨g.nd, by simp, fun a ha b hb => by
      have : b = p := by simpa using hb
      subst this
      exact fun e => g.notin hp (e ▸ ha)⟩
  · rcases List.mem_append.mp ha with h | h
    · obtain ⟨u, hu⟩ := g.al a h
      exact ⟨u, by rw [upd_ne (ne_of_none hu hp)]; exact hu⟩
    · have : a = p := by simpa using h
      subst this
      exact ⟨o, upd_same⟩
  · by_cases hj : j < s.length
    · rw [List.getElem?_append_left hj] at h1
      have h2' : w.ρ[j]? = some a := by rwa [List.getElem?_append_left (by rw [g.lr]; exact hj)] at h2
      have k := g.ce j c' a h1 h2'
      have ne : a ≠ p := fun e => g.notin hp (e ▸ List.mem_of_getElem? h2')
      refine k.up l ?_ fun o ho => by rw [upd_ne ne]; exact ho
      by_cases hc : c' = .gone
      · exact .inr hc
      · exact .inl (k.none hc)
    · have hj2 := (List.getElem?_eq_some_iff.mp h1).1
      rw [List.length_append, List.length_singleton] at hj2
      have e : j = s.length := by omega
      subst e
      rw [List.getElem?_append_right (Nat.le_refl _), Nat.sub_self] at h1
      rw [← g.lr, List.getElem?_append_right (Nat.le_refl _), Nat.sub_self] at h2
      cases h1
      cases h2
      exact hc
theorem Ok.new_le {p : Addr} : w.le ⟨w.F, w.ρ ++ [p]⟩ := ⟨Ext.refl _, List.prefix_append _ _⟩
theorem Ok.new_at (g : Ok B w s H) {p : Addr} : VR B ⟨w.F, w.ρ ++ [p]⟩ (.ref p) (.r s.length) := ⟨p, by
  show (w.ρ ++ [p])[s.length]? = some p
  rw [← g.lr, List.getElem?_append_right (Nat.le_refl _), Nat.sub_self]
  rfl, rfl⟩
/-- an object changes -/
theorem Ok.chg (g : Ok B w s H) {j : Nat} {a : Addr} {o : HO} {c : Cell} (hj : w.ρ[j]? = some a) (hF : w.F a = none) (hc : CR B w (upd H a o) a c) : Ok B w (s.set j c) (upd H a o) := by
  refine ⟨fun b u q => ?_, by simp [g.lr], g.nd, fun b hb => ?_, fun k c' b h1 h2 => ?_⟩
  · have ne : b ≠ a := fun e => by subst e; rw [hF] at q; cases q
    rw [upd_ne ne]
    exact g.ext b u q
  · by_cases e : b = a
    · subst e; exact ⟨o, upd_same⟩
    · obtain ⟨u, hu⟩ := g.al b hb
      exact ⟨u, by rw [upd_ne e]; exact hu⟩
  · by_cases e : k = j
    · subst e
      have hk := (List.getElem?_eq_some_iff.mp hj).1
      rw [List.getElem?_set_self (by rw [← g.lr]; exact hk)] at h1
      cases h1
      have : b = a := Option.some.inj (h2.symm.trans hj)
      subst this
      exact hc
    · rw [List.getElem?_set_ne (Ne.symm e)] at h1
      have ne : b ≠ a := fun q => by
        subst q
        exact e ((List.getElem?_inj (List.getElem?_eq_some_iff.mp h2).1 g.nd).mp (h2.trans hj.symm))
      have kk := g.ce k c' b h1 h2
      refine kk.up (W.le.refl w) ?_ fun o ho => by rw [upd_ne ne]; exact ho
      by_cases hc : c' = .gone
      · exact .inr hc
      · exact .inl (kk.none hc)
/-- an object is no longer told of -/
theorem Ok.drop (g : Ok B w s H) (j : Nat) : Ok B w (s.set j .gone) H := by
  refine ⟨g.ext, by simp [g.lr], g.nd, g.al, fun k c b h1 h2 => ?_⟩
  by_cases e : k = j
  · subst e
    have hk := (List.getElem?_eq_some_iff.mp h1).1
    rw [List.length_set] at hk
    rw [List.getElem?_set_self hk] at h1
    cases h1
    exact .gone
  · rw [List.getElem?_set_ne (Ne.symm e)] at h1
    exact g.ce k c b h1 h2
/-- what an object of the store refers to lies below -/
def Cell.below (n : Nat) : Cell → Prop
  | .lst ds => ∀ j, D.r j ∈ ds → j < n
  | .dic kvs => ∀ k j, (k, D.r j) ∈ kvs → j < n
  | .dk kvs => ∀ k j, (k, D.r j) ∈ kvs → j < n
  | .gone => True
theorem VR.cut {n : Nat} : ∀ {d : D}, VR B w v d → (∀ j, d = .r j → j < n) → VR B (w.take n) v d
  | .d x, h, _ => h
  | .r j, ⟨a, h1, h2⟩, hl => ⟨a, by show (w.ρ.take n)[j]? = _; rw [List.getElem?_take_of_lt (hl j rfl)]; exact h1, h2⟩
theorem VRs.cut {n : Nat} : ∀ {vs : List V} {ds : List D}, VRs B w vs ds → (∀ j, D.r j ∈ ds → j < n) → VRs B (w.take n) vs ds
  | [], [], _, _ => trivial
  | v :: vs, d :: ds, ⟨h1, h2⟩, h => ⟨h1.cut fun j e => h j (by rw [e]; simp), VRs.cut h2 fun j hj => h j (List.mem_cons_of_mem _ hj)⟩
  | [], _ :: _, h, _ => h.elim
  | _ :: _, [], h, _ => h.elim
theorem DR.cut {n : Nat} : ∀ {xs : List DEn} {kvs : List (PyData × D)}, DR B w xs kvs → (∀ k j, (k, D.r j) ∈ kvs → j < n) → DR B (w.take n) xs kvs
  | [], [], _, _ => trivial
  | e :: vs, d :: ds, ⟨⟨h1, h2, vv, h4, h5⟩, h6⟩, h => ⟨⟨h1, h2, vv, h4, h5.cut fun j q => h d.1 j (by rw [← q]; simp)⟩, DR.cut h6 fun k j hj => h k j (List.mem_cons_of_mem _ hj)⟩
  | [], _ :: _, h, _ => h.elim
  | _ :: _, [], h, _ => h.elim
theorem KR.cut {n : Nat} : ∀ {xs : List (Key × V)} {kvs : List (Key × D)}, KR B w xs kvs → (∀ k j, (k, D.r j) ∈ kvs → j < n) → KR B (w.take n) xs kvs
  | [], [], _, _ => trivial
  | e :: vs, d :: ds, ⟨⟨h1, h5⟩, h6⟩, h => ⟨⟨h1, h5.cut fun j q => h d.1 j (by rw [← q]; simp)⟩, KR.cut h6 fun k j hj => h k j (List.mem_cons_of_mem _ hj)⟩
  | [], _ :: _, h, _ => h.elim
  | _ :: _, [], h, _ => h.elim
theorem CR.cut {n : Nat} {a : Addr} {c : Cell} (h : CR B w H a c) (b : c.below n) : CR B (w.take n) H a c := by
  cases c with
  | lst ds => obtain ⟨h1, vs, h2, h3⟩ := h; exact ⟨h1, vs, h2, h3.cut b⟩
  | dic ds => obtain ⟨h1, vs, h2, h3⟩ := h; exact ⟨h1, vs, h2, h3.cut b⟩
  | dk ds => obtain ⟨h1, vs, h2, h3⟩ := h; exact ⟨h1, vs, h2, h3.cut b⟩
  | gone => trivial
theorem VR.lt {j : Nat} (h : VR B w v (.r j)) : j < w.ρ.length := let ⟨_, h1, _⟩ := h; (List.getElem?_eq_some_iff.mp h1).1
theorem DR.below : ∀ {xs : List DEn} {kvs : List (PyData × D)}, DR B w xs kvs → ∀ k j, (k, D.r j) ∈ kvs → j < w.ρ.length
  | [], [], _, _, _, h => by simp at h
  | e :: vs, d :: ds, ⟨⟨h1, h2, vv, h4, h5⟩, h6⟩, k, j, h => by
    rcases List.mem_cons.mp h with h | h
    · subst h; exact h5.lt
    · exact DR.below h6 k j h
  | [], _ :: _, h, _, _, _ => h.elim
  | _ :: _, [], h, _, _, _ => h.elim
theorem KR.below : ∀ {xs : List (Key × V)} {kvs : List (Key × D)}, KR B w xs kvs → ∀ k j, (k, D.r j) ∈ kvs → j < w.ρ.length
  | [], [], _, _, _, h => by simp at h
  | e :: vs, d :: ds, ⟨⟨h1, h5⟩, h6⟩, k, j, h => by
    rcases List.mem_cons.mp h with h | h
    · subst h; exact h5.lt
    · exact KR.below h6 k j h
  | [], _ :: _, h, _, _, _ => h.elim
  | _ :: _, [], h, _, _, _ => h.elim
theorem CR.isBelow {a : Addr} {c : Cell} (h : CR B w H a c) : c.below w.ρ.length := by
  cases c with
  | lst ds => obtain ⟨h1, vs, h2, h3⟩ := h; exact h3.below
  | dic ds => obtain ⟨h1, vs, h2, h3⟩ := h; exact h3.below
  | dk ds => obtain ⟨h1, vs, h2, h3⟩ := h; exact h3.below
  | gone => trivial
/-- the store cut back -/
theorem Ok.cut (g : Ok B w s H) {n : Nat} (h : ∀ j c, j < n → s[j]? = some c → c.below n) : Ok B (w.take n) (s.take n) H := by
  refine ⟨g.ext, by simp [g.lr], g.nd.sublist (List.take_sublist _ _), fun a ha => g.al a (List.mem_of_mem_take ha), fun j c a h1 h2 => ?_⟩
  by_cases hj : j < n
  · rw [List.getElem?_take_of_lt hj] at h1
    have h2' : w.ρ[j]? = some a := by
      have : (w.ρ.take n)[j]? = some a := h2
      rwa [List.getElem?_take_of_lt hj] at this
    exact (g.ce j c a h1 h2').cut (h j c hj h1)
  · rw [List.getElem?_eq_none (by rw [List.length_take]; omega)] at h1
    cases h1
/-- a list of data becomes a datum -/
theorem Ok.freeze (g : Ok B w s H) {j : Nat} {a : Addr} {xs : List PyData} (hs : s[j]? = some (.lst (xs.map .d))) (ha : w.ρ[j]? = some a) :
    ∃ w', w.le w' ∧ Ok B w' (s.set j .gone) H ∧ Dp B.K w'.F (.ref a) (.list xs) := by
  obtain ⟨hF, vs, hH, hv⟩ := g.ce j _ a hs ha
  have l : w.le ⟨upd w.F a (.lst vs), w.ρ⟩ := ⟨Ext.up hF, List.prefix_rfl⟩
  refine ⟨_, l, ⟨fun b u q => ?_, by simp [g.lr], g.nd, g.al, fun k c b h1 h2 => ?_⟩, .lst (.of upd_same) (dpsUp l.F _ _ (VRs.data.mp hv))⟩
  · by_cases e : b = a
    · subst e
      have q' : upd w.F b (.lst vs) b = some u := q
      rw [upd_same] at q'
      cases q'
      exact hH
    · have q' : upd w.F a (.lst vs) b = some u := q
      rw [upd_ne e] at q'
      exact g.ext b u q'
  · by_cases e : k = j
    · subst e
      have hk := (List.getElem?_eq_some_iff.mp hs).1
      rw [List.getElem?_set_self hk] at h1
      cases h1
      exact .gone
    · rw [List.getElem?_set_ne (Ne.symm e)] at h1
      have ne : b ≠ a := fun q => by
        subst q
        exact e ((List.getElem?_inj (List.getElem?_eq_some_iff.mp h2).1 g.nd).mp (h2.trans ha.symm))
      have kk := g.ce k c b h1 h2
      refine kk.up l ?_ fun o ho => ho
      by_cases hc : c = .gone
      · exact .inr hc
      · left; show upd w.F a _ b = none
        rw [upd_ne ne]; exact kk.none hc
/-! ### slots -/
theorem Sl.put (g : Sl B w e σ) (i : Nat) (hv : VR B w v d) : Sl B w (e.set i (some d)) (σ.set i (some v)) := by
  refine ⟨by simp [g.le], fun k d' h => ?_⟩
  by_cases hk : k = i
  · subst hk
    have hl := (List.getElem?_eq_some_iff.mp h).1
    rw [List.length_set] at hl
    rw [List.getElem?_set_self hl] at h
    cases h
    exact ⟨v, by rw [List.getElem?_set_self (by rw [← g.le]; exact hl)], hv⟩
  · rw [List.getElem?_set_ne (Ne.symm hk)] at h
    obtain ⟨u, h1, h2⟩ := g.sl k d' h
    exact ⟨u, by rw [List.getElem?_set_ne (Ne.symm hk)]; exact h1, h2⟩
/-- slots forgotten -/
theorem Sl.wk (g : Sl B w e σ) {e' : Lo} (hl : e'.length = e.length) (h : ∀ (i : Nat) (d : D), e'[i]? = some (some d) → e[i]? = some (some d)) : Sl B w e' σ :=
  ⟨hl.trans g.le, fun i d q => g.sl i d (h i d q)⟩
theorem Sl.cut (g : Sl B w e σ) {n : Nat} (h : ∀ (i j : Nat), e[i]? = some (some (D.r j)) → j < n) : Sl B (w.take n) e σ :=
  ⟨g.le, fun i d q => let ⟨v, h1, h2⟩ := g.sl i d q; ⟨v, h1, h2.cut fun j e => h i j (by rw [← e]; exact q)⟩⟩
end
end N

namespace N
open PySem L2 PyProof.Rows
open Z (Ext dpUp dpsUp dpsLen dpsGet DxO KyD DEn)

/-! ### judgements: a piece of syntax and the Lean function that it computes -/
abbrev ME := Lo → Sto → Option (D × Sto)
abbrev MT := Lo → Sto → Option (Bool × Sto)
abbrev MA := Lo → Sto → Option (List D × Sto)
abbrev MO := Lo → Sto → Option (Option Int × Sto)
abbrev ba (X : Cx) : Ba := ⟨X.prog, X.w, X.K⟩
def tE (B : Ba) (e : Lo) (s : Sto) (d : D) (s' : Sto) : TE := fun σ H Q => ∃ w, Ok B w s H ∧ Sl B w e σ ∧ ∀ v w' H', w.le w' → Ok B w' s' H' → VR B w' v d → Q v H'
def tT (B : Ba) (e : Lo) (s : Sto) (b : Bool) (s' : Sto) : TT := fun σ H Q => ∃ w, Ok B w s H ∧ Sl B w e σ ∧ ∀ w' H', w.le w' → Ok B w' s' H' → Q b H'
def tA (B : Ba) (e : Lo) (s : Sto) (ds : List D) (s' : Sto) : TA := fun σ H Q => ∃ w, Ok B w s H ∧ Sl B w e σ ∧ ∀ vs w' H', w.le w' → Ok B w' s' H' → VRs B w' vs ds → Q vs H'
def tO (B : Ba) (e : Lo) (s : Sto) (o : Option Int) (s' : Sto) : TO := fun σ H Q => ∃ w, Ok B w s H ∧ Sl B w e σ ∧ ∀ w' H', w.le w' → Ok B w' s' H' → Q o H'
def NE (X : Cx) (ex : Expr) (m : ME) : Prop := ∀ e s d s', m e s = some (d, s') → PE X ex (tE (ba X) e s d s')
def NT (X : Cx) (ex : Expr) (m : MT) : Prop := ∀ e s b s', m e s = some (b, s') → PT X ex (tT (ba X) e s b s')
def NW (X : Cx) (ex : Expr) (m : MT) : Prop := ∀ e s b s', m e s = some (b, s') → PW X ex (tT (ba X) e s b s')
def NA (X : Cx) (es : List Expr) (m : MA) : Prop := ∀ e s ds s', m e s = some (ds, s') → PA X es (tA (ba X) e s ds s')
def NO (X : Cx) (o : Option Expr) (m : MO) : Prop := ∀ e s i s', m e s = some (i, s') → PO X o (tO (ba X) e s i s')
section
variable {X : Cx} {ex a b c : Expr} {es : List Expr} {m ma mb mc : ME} {pos p : Pos}
theorem PE.imp {e : Expr} {t t' : TE} (h : PE X e t) (i : ∀ σ H Q, t' σ H Q → t σ H Q) : PE X e t' := Z.PE.imp h i
theorem PT.imp {e : Expr} {t t' : TT} (h : PT X e t) (i : ∀ σ H Q, t' σ H Q → t σ H Q) : PT X e t' := Z.PT.imp h i
theorem PW.imp {e : Expr} {t t' : TT} (h : PW X e t) (i : ∀ σ H Q, t' σ H Q → t σ H Q) : PW X e t' := Z.PW.imp h i
theorem PA.imp {t t' : TA} (h : PA X es t) (i : ∀ σ H Q, t' σ H Q → t σ H Q) : PA X es t' := Z.PA.imp h i
theorem NE.fam (h : NE X ex m) : PE X ex (fun σ H Q => ∃ e s d s', m e s = some (d, s') ∧ tE (ba X) e s d s' σ H Q) :=
  ⟨fun pins sh σ H Q I ⟨e, s, d, s', hm, q⟩ => (h e s d s' hm).run pins sh σ H Q I q⟩
theorem NT.fam {m : MT} (h : NT X ex m) : PT X ex (fun σ H Q => ∃ e s d s', m e s = some (d, s') ∧ tT (ba X) e s d s' σ H Q) :=
  ⟨fun pins sh σ H Q I ⟨e, s, d, s', hm, q⟩ => (h e s d s' hm).run pins sh σ H Q I q⟩
theorem NW.fam {m : MT} (h : NW X ex m) : PW X ex (fun σ H Q => ∃ e s d s', m e s = some (d, s') ∧ tT (ba X) e s d s' σ H Q) :=
  ⟨fun w pins sh σ H Q I ⟨e, s, d, s', hm, q⟩ => (h e s d s' hm).run w pins sh σ H Q I q⟩
theorem NA.fam {m : MA} (h : NA X es m) : PA X es (fun σ H Q => ∃ e s d s', m e s = some (d, s') ∧ tA (ba X) e s d s' σ H Q) :=
  ⟨fun pos pins sh σ H Q I ⟨e, s, d, s', hm, q⟩ => (h e s d s' hm).run pos pins sh σ H Q I q⟩

/-! ### names and constants -/
def eVar (i : Nat) : ME := fun e s => match e[i]? with
  | some (some d) => some (d, s)
  | _ => none
def eC (x : PyData) : ME := fun _ s => some (.d x, s)
theorem n_var (i : Nat) {x : Str} (hN : X.N[i]? = some x := by rfl) (hv : Vis X.env.scope x := by first | exact Or.inl rfl | exact Or.inr (Or.inl rfl) | exact Or.inr (Or.inr rfl))
    (hd : (x == ("__debug__" : Str)) = false := by decide) (hcd : (x == ("__classdict__" : Str)) = false := by decide) : NE X (.Name x pos) (eVar i) := fun e s d s' h => by
  unfold eVar at h
  split at h
  · rename_i d' hd'
    cases h
    refine PE.imp (pe_var hN hv hd hcd) fun σ H Q ⟨w, g, l, q⟩ => ?_
    obtain ⟨v, h1, h2⟩ := l.sl i d hd'
    exact ⟨v, h1, q v w H (W.le.refl w) g h2⟩
  · cases h
theorem flat_vr {B : Ba} {w : W} {v : V} {x : PyData} (f : Z.flat v x) : VR B w v (.d x) := Z.flatDp f
theorem n_int {i : Int} {j : Nat} : NE X (.Constant (.int i) j pos) (eC (.int i)) := fun e s d s' h => by
  cases h
  exact PE.imp pe_int fun σ H Q ⟨w, g, l, q⟩ => q _ w H (W.le.refl w) g (flat_vr (show Z.flat (.int i) (.int i) from rfl))
theorem n_bl {i : Bool} {j : Nat} : NE X (.Constant (.bool i) j pos) (eC (.bool i)) := fun e s d s' h => by
  cases h
  exact PE.imp pe_bl fun σ H Q ⟨w, g, l, q⟩ => q _ w H (W.le.refl w) g (flat_vr (show Z.flat (.bl i) (.bool i) from rfl))
theorem n_str {i : Str} {j : Nat} : NE X (.Constant (.str i) j pos) (eC (.str i)) := fun e s d s' h => by
  cases h
  exact PE.imp pe_str fun σ H Q ⟨w, g, l, q⟩ => q _ w H (W.le.refl w) g (flat_vr (show Z.flat (.str i) (.str i) from rfl))
theorem n_non {j : Nat} : NE X (.Constant .none j pos) (eC .none) := fun e s d s' h => by
  cases h
  exact PE.imp pe_non fun σ H Q ⟨w, g, l, q⟩ => q _ w H (W.le.refl w) g (flat_vr (show Z.flat .non .none from trivial))
/-- a name of the module that holds a plain datum -/
def Gv (mg : Str → Option Value) (x : Str) (y : PyData) : Prop := ∃ v u, mg x = some u ∧ RelV v u ∧ Z.flat v y
theorem n_glob {x : Str} {y : PyData} (hm : Gv X.mg x y) (hg : Gl X x := by rfl) (hd : (x == ("__debug__" : Str)) = false := by decide) : NE X (.Name x pos) (eC y) := fun e s d s' h => by
  cases h
  obtain ⟨v, u, h1, h2, h3⟩ := hm
  exact PE.imp (pe_glob hg h1 h2 hd) fun σ H Q ⟨w, g, l, q⟩ => q _ w H (W.le.refl w) g (flat_vr h3)

/-! ### argument lists -/
def aNil : MA := fun _ s => some ([], s)
def aCons (m : ME) (ms : MA) : MA := fun e s => match m e s with
  | some (d, s1) => match ms e s1 with
    | some (ds, s2) => some (d :: ds, s2)
    | none => none
  | none => none
theorem n_nil : NA X [] aNil := fun e s d s' h => by
  cases h
  exact PA.imp pa_nil fun σ H Q ⟨w, g, l, q⟩ => q [] w H (W.le.refl w) g trivial
theorem n_cons {ms : MA} (h1 : NE X ex m) (h2 : NA X es ms) (hs : starEach (ex :: es) X.env = (false, eval ex X.env) :: starEach es X.env := by rfl) : NA X (ex :: es) (aCons m ms) := fun e s ds s' h => by
  unfold aCons at h
  split at h
  · rename_i d s1 e1
    split at h
    · rename_i ds' s2 e2
      cases h
      refine PA.imp (pa_cons (h1 _ _ _ _ e1) (h2 _ _ _ _ e2) hs) fun σ H Q ⟨w, g, l, q⟩ => ⟨w, g, l, fun v w1 H1 l1 g1 v1 => ⟨w1, g1, l.up l1, fun vs w2 H2 l2 g2 v2 => ?_⟩⟩
      exact q (v :: vs) w2 H2 (l1.trans l2) g2 ⟨v1.up l2, v2⟩
    · cases h
  · cases h

/-! ### new tuples and lists -/
def data : List D → Option (List PyData)
  | [] => some []
  | .d x :: r => match data r with
    | some xs => some (x :: xs)
    | none => none
  | .r _ :: _ => none
theorem data_map (xs : List PyData) : data (xs.map .d) = some xs := by
  induction xs with
  | nil => rfl
  | cons x xs ih => rw [List.map_cons]; unfold data; rw [ih]
theorem data_eq : ∀ {ds : List D} {xs : List PyData}, data ds = some xs → ds = xs.map .d
  | [], xs, h => by cases h; rfl
  | .d x :: r, xs, h => by
    unfold data at h
    split at h
    · rename_i ys e
      cases h
      rw [data_eq e]; rfl
    · cases h
  | .r _ :: _, _, h => by cases h
abbrev lim : Nat := 1000000
theorem lim_lt : lim < sizeLine := by decide
/-- a new list: kept for good, or an object of the store -/
def mkL (own : Bool) (s : Sto) (ds : List D) : Option (D × Sto) :=
  if own then some (.r s.length, s ++ [.lst ds]) else match data ds with
    | some xs => some (.d (.list xs), s)
    | none => none
theorem mkL_ok {B : Ba} {w : W} {s s' : Sto} {H : Hp} {own : Bool} {ds : List D} {d : D} {vs : List V} {q : Addr} (h : mkL own s ds = some (d, s')) (g : Ok B w s H) (hq : H q = none) (hv : VRs B w vs ds) :
    ∃ w', w.le w' ∧ Ok B w' s' (upd H q (.lst vs)) ∧ VR B w' (.ref q) d := by
  unfold mkL at h
  split at h
  · cases h
    exact ⟨_, Ok.new_le, g.new hq ⟨ext_none g.ext hq, vs, upd_same, hv.up Ok.new_le⟩, g.new_at⟩
  · split at h
    · rename_i xs e
      cases h
      rw [data_eq e] at hv
      exact ⟨_, g.frz_le hq, g.frz hq, .lst (.of upd_same) (dpsUp (Ext.up (ext_none g.ext hq)) _ _ (VRs.data.mp hv))⟩
    · cases h
def eTup (ms : MA) : ME := fun e s => match ms e s with
  | some (ds, s1) => match data ds with
    | some xs => if xs.length ≤ lim then some (.d (.tuple xs), s1) else none
    | none => none
  | none => none
def eLst (own : Bool) (ms : MA) : ME := fun e s => match ms e s with
  | some (ds, s1) => if ds.length ≤ lim then mkL own s1 ds else none
  | none => none
theorem tup_ok {B : Ba} {w : W} {s : Sto} {H : Hp} {xs : List PyData} {vs : List V} {q : Addr} (g : Ok B w s H) (hq : H q = none) (hv : DpAll B.K w.F vs xs) :
    ∃ w', w.le w' ∧ Ok B w' s (upd H q (.tup vs)) ∧ VR B w' (.ref q) (.d (.tuple xs)) :=
  ⟨_, g.frz_le hq, g.frz hq, .tup (.of upd_same) (dpsUp (Ext.up (ext_none g.ext hq)) _ _ hv)⟩
theorem n_tup {k : Nat} {ms : MA} (h : NA X es ms) : NE X (.Tuple es k pos) (eTup ms) := fun e s d s' hm => by
  unfold eTup at hm
  split at hm
  · rename_i ds s1 e1
    split at hm
    · rename_i xs e2
      split at hm
      · rename_i hl
        cases hm
        refine PE.imp (pe_tup (h _ _ _ _ e1)) fun σ H Q ⟨w, g, l, q⟩ => ⟨w, g, l, fun vs w1 H1 l1 g1 v1 => ?_⟩
        rw [data_eq e2] at v1
        have hd := VRs.data.mp v1
        refine ⟨by rw [dpsLen hd]; exact Nat.le_trans hl (Nat.le_of_lt lim_lt), fun q' hq => ?_⟩
        obtain ⟨w2, l2, g2, v2⟩ := tup_ok g1 hq hd
        exact q _ w2 _ (l1.trans l2) g2 v2
      · cases hm
    · cases hm
  · cases hm
theorem n_lst {own : Bool} {ms : MA} (h : NA X es ms) : NE X (.List es pos) (eLst own ms) := fun e s d s' hm => by
  unfold eLst at hm
  split at hm
  · rename_i ds s1 e1
    split at hm
    · rename_i hl
      refine PE.imp (pe_lst (h _ _ _ _ e1)) fun σ H Q ⟨w, g, l, q⟩ => ⟨w, g, l, fun vs w1 H1 l1 g1 v1 => ?_⟩
      refine ⟨by rw [v1.len]; exact Nat.le_trans hl (Nat.le_of_lt lim_lt), fun q' hq => ?_⟩
      obtain ⟨w2, l2, g2, v2⟩ := mkL_ok hm g1 hq v1
      exact q _ w2 _ (l1.trans l2) g2 v2
    · cases hm
  · cases hm

/-! ### what a value is seen as -/
def asL (s : Sto) : D → Option (List D)
  | .d (.list xs) => some (xs.map .d)
  | .r j => match s[j]? with
    | some (.lst ds) => some ds
    | _ => none
  | _ => none
def asT : D → Option (List PyData)
  | .d (.tuple xs) => some xs
  | _ => none
def pd (s : Sto) : D → Option PyData
  | .d x => some x
  | .r j => match s[j]? with
    | some (.lst ds) => match data ds with
      | some xs => some (.list xs)
      | none => none
    | _ => none
section
variable {B : Ba} {w : W} {s : Sto} {H : Hp} {v : V} {d : D}
theorem asL_ok {ds : List D} (h : asL s d = some ds) (g : Ok B w s H) (hv : VR B w v d) : ∃ p vs, v = .ref p ∧ SqL B.K H p vs ∧ VRs B w vs ds := by
  unfold asL at h
  split at h
  · cases h
    cases hv with
    | lst hs ha => exact ⟨_, _, rfl, g.ext.l hs, VRs.data.mpr ha⟩
  · split at h
    · rename_i j ds' e
      cases h
      obtain ⟨a, h1, rfl⟩ := hv
      obtain ⟨_, vs, h2, h3⟩ := g.ce _ _ a e h1
      exact ⟨a, vs, rfl, .of h2, h3⟩
    · cases h
  · cases h
theorem asT_ok {xs : List PyData} (h : asT d = some xs) (g : Ok B w s H) (hv : VR B w v d) : ∃ p vs, v = .ref p ∧ SqT B.K H p vs ∧ DpAll B.K w.F vs xs := by
  unfold asT at h
  split at h
  · cases h
    cases hv with
    | tup hs ha => exact ⟨_, _, rfl, g.ext.t hs, ha⟩
  · cases h
theorem pd_ok {x : PyData} (h : pd s d = some x) (g : Ok B w s H) (hv : VR B w v d) : Dp B.K H v x := by
  unfold pd at h
  split at h
  · cases h
    exact dpUp g.ext _ _ hv
  · split at h
    · rename_i j ds e
      split at h
      · rename_i xs e2
        cases h
        obtain ⟨a, h1, rfl⟩ := hv
        obtain ⟨_, vs, h2, h3⟩ := g.ce _ _ a e h1
        rw [data_eq e2] at h3
        exact .lst (.of h2) (dpsUp g.ext _ _ (VRs.data.mp h3))
      · cases h
    · cases h
theorem vr_int {i : Int} (h : VR B w v (.d (.int i))) : v = .int i := by cases h; rfl
theorem vr_bl {i : Bool} (h : VR B w v (.d (.bool i))) : v = .bl i := by cases h; rfl
theorem vr_str {i : Str} (h : VR B w v (.d (.str i))) : v = .str i := by cases h; rfl
theorem vr_non (h : VR B w v (.d .none)) : v = .non := by cases h; rfl
theorem vi {i : Int} : VR B w (.int i) (.d (.int i)) := flat_vr (show Z.flat (.int i) (.int i) from rfl)
theorem vb {i : Bool} : VR B w (.bl i) (.d (.bool i)) := flat_vr (show Z.flat (.bl i) (.bool i) from rfl)
theorem vs' {i : Str} : VR B w (.str i) (.d (.str i)) := flat_vr (show Z.flat (.str i) (.str i) from rfl)
theorem vn : VR B w .non (.d .none) := flat_vr (show Z.flat .non .none from trivial)
end

/-! ### operators -/
def BiN (B : Ba) (q : R2) (s : Sto) (a b z : D) (s' : Sto) : Prop := ∀ u v w H Q, Ok B w s H → VR B w u a → VR B w v b → (∀ x w' H', w.le w' → Ok B w' s' H' → VR B w' x z → Q x H') → q u v H Q
abbrev FB := Sto → D → D → Option (D × Sto)
def OpS (X : Cx) (op : Operator) (f : FB) : Prop := ∀ s a b z s', f s a b = some (z, s') → ∃ q, OpR X (binaryOp op) q ∧ BiN (ba X) q s a b z s'
def eBin (f : FB) (ma mb : ME) : ME := fun e s => match ma e s with
  | some (a, s1) => match mb e s1 with
    | some (b, s2) => f s2 a b
    | none => none
  | none => none
theorem bin_cases {f : FB} {e : Lo} {s s' : Sto} {z : D} (h : eBin f ma mb e s = some (z, s')) : ∃ a s1 b s2, ma e s = some (a, s1) ∧ mb e s1 = some (b, s2) ∧ f s2 a b = some (z, s') := by
  unfold eBin at h
  split at h
  · rename_i a s1 e1
    split at h
    · rename_i b s2 e2
      exact ⟨a, s1, b, s2, e1, e2, h⟩
    · cases h
  · cases h
theorem bi_run {q : R2} {e : Lo} {s s1 s2 s3 : Sto} {x y z : D} (hq : BiN (ba X) q s2 x y z s3) : ∀ σ H Q, tE (ba X) e s z s3 σ H Q → tOp q (tE (ba X) e s x s1) (tE (ba X) e s1 y s2) σ H Q := fun σ H Q ⟨w, g, l, k⟩ =>
  ⟨w, g, l, fun u w1 H1 l1 g1 v1 => ⟨w1, g1, l.up l1, fun v w2 H2 l2 g2 v2 => hq u v w2 H2 Q g2 (v1.up l2) v2 fun x w3 H3 l3 g3 v3 => k x w3 H3 ((l1.trans l2).trans l3) g3 v3⟩⟩
theorem n_bin {op : Operator} {f : FB} (ho : OpS X op f) (ha : NE X a ma) (hb : NE X b mb) : NE X (.BinOp a op b pos) (eBin f ma mb) := fun e s z s' h => by
  obtain ⟨x, s1, y, s2, e1, e2, e3⟩ := bin_cases h
  obtain ⟨q, hq, hB⟩ := ho _ _ _ _ _ e3
  exact PE.imp (pe_op hq (ha _ _ _ _ e1) (hb _ _ _ _ e2)) (bi_run hB)
theorem BiN.int {B : Ba} {f : Int → Int → V} {i j : Int} {z : PyData} {s : Sto} (hz : Z.flat (f i j) z) : BiN B (rI0 f) s (.d (.int i)) (.d (.int j)) (.d z) s := fun u v w H Q g h1 h2 k => by
  cases vr_int h1
  cases vr_int h2
  exact ⟨i, j, rfl, rfl, k _ w H (W.le.refl w) g (flat_vr hz)⟩
theorem BiN.intC {B : Ba} {C : Int → Int → Prop} {f : Int → Int → V} {i j : Int} {z : PyData} {s : Sto} (hc : C i j) (hz : Z.flat (f i j) z) : BiN B (rI C f) s (.d (.int i)) (.d (.int j)) (.d z) s := fun u v w H Q g h1 h2 k => by
  cases vr_int h1
  cases vr_int h2
  exact ⟨i, j, rfl, rfl, hc, k _ w H (W.le.refl w) g (flat_vr hz)⟩
def i2 (f : Int → Int → Option Int) : FB := fun s a b => match a, b with
  | .d (.int i), .d (.int j) => match f i j with
    | some k => some (.d (.int k), s)
    | none => none
  | _, _ => none
theorem i2_cases {f : Int → Int → Option Int} {s s' : Sto} {a b z : D} (h : i2 f s a b = some (z, s')) : ∃ i j k, a = .d (.int i) ∧ b = .d (.int j) ∧ f i j = some k ∧ z = .d (.int k) ∧ s' = s := by
  unfold i2 at h
  split at h
  · rename_i i j
    split at h
    · rename_i k e
      cases h
      exact ⟨i, j, k, rfl, rfl, e, rfl, rfl⟩
    · cases h
  · cases h
def oSub : FB := i2 fun i j => some (i - j)
def oXor : FB := i2 fun i j => some (Builtin.bitXor i j)
def oAnd : FB := i2 fun i j => some (Builtin.bitAnd i j)
def oOr : FB := i2 fun i j => some (Builtin.bitOr i j)
def oDiv : FB := i2 fun i j => if 0 < j ∧ j.natAbs.log2 < 9000 then some (i / j) else none
def oMod : FB := i2 fun i j => if 0 < j then some (i % j) else none
def oPow : FB := i2 fun i j => if 0 ≤ j ∧ j ≤ 1000000 ∧ i.natAbs < 2 ^ 64 then some (i ^ j.toNat) else none
def oShl : FB := i2 fun i j => if 0 ≤ j ∧ j ≤ 1000000 ∧ i.natAbs < 2 ^ 64 then some (i * 2 ^ j.toNat) else none
def oShr : FB := i2 fun i j => if 0 ≤ j then some (i / 2 ^ j.toNat) else none
theorem op0 {op : Operator} {f : Int → Int → Int} (h : OpR X (binaryOp op) (rI0 fun i j => .int (f i j))) : OpS X op (i2 fun i j => some (f i j)) := fun s a b z s' e => by
  obtain ⟨i, j, k, rfl, rfl, e1, rfl, rfl⟩ := i2_cases e
  cases e1
  exact ⟨_, h, BiN.int (show Z.flat (.int _) (.int _) from rfl)⟩
theorem opC {op : Operator} {f : Int → Int → Int} {C : Int → Int → Prop} {c : Int → Int → Prop} [∀ i j, Decidable (c i j)] (h : OpR X (binaryOp op) (rI C fun i j => .int (f i j))) (hc : ∀ i j, c i j → C i j) : OpS X op (i2 fun i j => if c i j then some (f i j) else none) := fun s a b z s' e => by
  obtain ⟨i, j, k, rfl, rfl, e1, rfl, rfl⟩ := i2_cases e
  split at e1
  · cases e1
    exact ⟨_, h, BiN.intC (hc i j ‹_›) (show Z.flat (.int _) (.int _) from rfl)⟩
  · cases e1
theorem o_sub : OpS X .Sub oSub := op0 op_sub
theorem o_xor : OpS X .BitXor oXor := op0 op_xor
theorem o_and : OpS X .BitAnd oAnd := op0 op_and
theorem o_or : OpS X .BitOr oOr := op0 op_or
theorem o_div : OpS X .FloorDiv oDiv := opC op_fdivW fun i j h => h
theorem o_mod : OpS X .Mod oMod := opC op_mod fun i j h => h
theorem o_pow : OpS X .Pow oPow := opC op_pow fun i j h => h
theorem o_shl : OpS X .LShift oShl := opC op_shl fun i j h => h
theorem o_shr : OpS X .RShift oShr := opC op_shr fun i j h => h
/-- + : numbers, texts, tuples, lists -/
def oAdd (own : Bool) : FB := fun s a b => match a, b with
  | .d (.int i), .d (.int j) => some (.d (.int (i + j)), s)
  | .d (.tuple xs), .d (.tuple ys) => if xs.length + ys.length ≤ lim then some (.d (.tuple (xs ++ ys)), s) else none
  | .d (.str x), .d (.str y) => if x.length + y.length ≤ lim then some (.d (.str (x ++ y)), s) else none
  | a, b => match asL s a with
    | some ds => match asL s b with
      | some es => if ds.length + es.length ≤ lim then mkL own s (ds ++ es) else none
      | none => none
    | none => none
theorem dp_tup {K : PySem.W.Frag} {F : Hp} {v : V} {xs : List PyData} (h : Dp K F v (.tuple xs)) : ∃ a vs, v = .ref a ∧ SqT K F a vs ∧ DpAll K F vs xs := by
  cases h with
  | tup h1 h2 => exact ⟨_, _, rfl, h1, h2⟩
theorem o_add {own : Bool} : OpS X .Add (oAdd own) := fun s a b z s' e => by
  unfold oAdd at e
  split at e
  · cases e
    exact ⟨_, op_add, BiN.int (show Z.flat (.int _) (.int _) from rfl)⟩
  · rename_i xs ys
    split at e
    · rename_i hl
      cases e
      refine ⟨_, op_catA, fun u v w H Q g h1 h2 k => ?_⟩
      obtain ⟨a, us, rfl, t1, d1⟩ := dp_tup h1
      obtain ⟨b, vs, rfl, t2, d2⟩ := dp_tup h2
      refine ⟨a, b, us, vs, rfl, rfl, g.ext.t t1, g.ext.t t2, by rw [dpsLen d1, dpsLen d2]; exact Nat.le_trans hl (Nat.le_of_lt lim_lt), fun e => ?_, fun _ e => ?_, fun _ _ p hp => ?_⟩
      · subst e
        cases d1
        exact k _ w H (W.le.refl w) g h2
      · subst e
        cases d2
        exact k _ w H (W.le.refl w) g (by rw [List.append_nil]; exact h1)
      · obtain ⟨w', l, g', v'⟩ := tup_ok g hp (Z.dpsApp d1 d2)
        exact k _ w' _ l g' v'
    · cases e
  · rename_i x y
    split at e
    · rename_i hl
      cases e
      refine ⟨_, op_add_str, fun u v w H Q g h1 h2 k => ?_⟩
      cases vr_str h1
      cases vr_str h2
      exact ⟨x, y, rfl, rfl, Nat.le_trans hl (Nat.le_of_lt lim_lt), k _ w H (W.le.refl w) g vs'⟩
    · cases e
  · split at e
    · rename_i ds e1
      split at e
      · rename_i es e2
        split at e
        · rename_i hl
          refine ⟨_, Z.op_catQ, fun u v w H Q g h1 h2 k => ?_⟩
          obtain ⟨p1, us, rfl, q1, r1⟩ := asL_ok e1 g h1
          obtain ⟨p2, vs, rfl, q2, r2⟩ := asL_ok e2 g h2
          refine ⟨p1, p2, us, vs, rfl, rfl, q1, q2, by rw [r1.len, r2.len]; exact Nat.le_trans hl (Nat.le_of_lt lim_lt), fun p hp => ?_⟩
          obtain ⟨w', l, g', v'⟩ := mkL_ok e g hp (r1.app r2)
          exact k _ w' _ l g' v'
        · cases e
      · cases e
    · cases e
theorem flat_rep {α β : Type} (R : List α → List β → Prop) (h0 : R [] []) (hA : ∀ {a b c d}, R a c → R b d → R (a ++ b) (c ++ d)) {xs : List α} {ys : List β} (h : R xs ys) : ∀ n : Nat, R (List.replicate n xs).flatten (List.replicate n ys).flatten
  | 0 => h0
  | n + 1 => by
    rw [List.replicate_succ, List.replicate_succ, List.flatten_cons, List.flatten_cons]
    exact hA h (flat_rep R h0 hA h n)
/-- * : numbers, a tuple some times -/
def oMul : FB := fun s a b => match a, b with
  | .d (.int i), .d (.int j) => if ((-(2 ^ 64) < i ∧ i < 2 ^ 64) ∨ (-(2 ^ 64) < j ∧ j < 2 ^ 64)) ∨ i.natAbs.log2 + j.natAbs.log2 < 1000000 then some (.d (.int (i * j)), s) else none
  | .d (.tuple xs), .d (.int k) => if xs ≠ [] ∧ 1 ≤ k ∧ k ≤ 1000 ∧ xs.length ≤ 1000 then some (.d (.tuple (List.replicate k.toNat xs).flatten), s) else none
  | _, _ => none
theorem o_mul : OpS X .Mult oMul := fun s a b z s' e => by
  unfold oMul at e
  split at e
  · split at e
    · rename_i hc
      cases e
      rcases hc with hc | hc
      · exact ⟨_, op_mul, BiN.intC hc (show Z.flat (.int _) (.int _) from rfl)⟩
      · exact ⟨_, op_mulW, BiN.intC hc (show Z.flat (.int _) (.int _) from rfl)⟩
    · cases e
  · rename_i xs k'
    split at e
    · rename_i hl
      cases e
      obtain ⟨h1, h2, h3, h4⟩ := hl
      refine ⟨_, Z.op_repQ, fun u v w H Q g q1 q2 k => ?_⟩
      obtain ⟨a, us, rfl, t1, d1⟩ := dp_tup q1
      cases vr_int q2
      refine ⟨a, k', us, rfl, rfl, g.ext.t t1, fun e => h1 (by subst e; cases d1; rfl), h2, h3, by rw [dpsLen d1]; exact h4, fun e => ?_, fun _ p hp => ?_⟩
      · subst e
        refine k _ w H (W.le.refl w) g ?_
        show Dp _ _ _ (.tuple (List.replicate 1 xs).flatten)
        rw [List.replicate_succ, List.replicate_zero, List.flatten_cons, List.flatten_nil, List.append_nil]
        exact q1
      · obtain ⟨w', l, g', v'⟩ := tup_ok g hp (flat_rep (fun vs xs => DpAll _ w.F vs xs) .nil (fun a b => Z.dpsApp a b) d1 k'.toNat)
        exact k _ w' _ l g' v'
    · cases e
  · cases e
/-- [..] * n -/
def eRep (own : Bool) (ms : MA) (mb : ME) : ME := fun e s => match ms e s with
  | some (ds, s1) => match mb e s1 with
    | some (.d (.int k), s2) => if ds.length ≤ lim ∧ k < 2 ^ 62 ∧ -(2 ^ 62) < k ∧ ds.length * k.toNat ≤ lim then mkL own s2 (List.replicate k.toNat ds).flatten else none
    | _ => none
  | none => none
theorem n_rep {own : Bool} {ms : MA} {p2 : Pos} (h : NA X es ms) (hb : NE X b mb) : NE X (.BinOp (.List es p2) .Mult b pos) (eRep own ms mb) := fun e s d s' hm => by
  unfold eRep at hm
  split at hm
  · rename_i ds s1 e1
    split at hm
    · rename_i k s2 e2
      split at hm
      · rename_i hl
        obtain ⟨l1, l2, l3, l4⟩ := hl
        refine PE.imp (pe_op op_rep (pe_lst (h _ _ _ _ e1)) (hb _ _ _ _ e2)) fun σ H Q ⟨w, g, l, q⟩ => ?_
        refine ⟨w, g, l, fun vs w1 H1 le1 g1 v1 => ⟨by rw [v1.len]; exact Nat.le_trans l1 (Nat.le_of_lt lim_lt), fun p hp => ?_⟩⟩
        refine ⟨⟨upd w1.F p (.lst vs), w1.ρ⟩, g1.frz hp, l.up (le1.trans (g1.frz_le hp)), fun v w2 H2 le2 g2 v2 => ?_⟩
        cases vr_int v2
        have hH : H2 p = some (.lst vs) := g2.ext p _ (le2.F p _ upd_same)
        refine ⟨p, k, vs, rfl, rfl, hH, by omega, by omega, by rw [v1.len]; exact Nat.le_trans l4 (Nat.le_of_lt lim_lt), fun p2 hp2 => ?_⟩
        have vv : VRs _ w2 vs ds := (v1.up (g1.frz_le hp)).up le2
        obtain ⟨w3, le3, g3, v3⟩ := mkL_ok hm g2 hp2 (flat_rep (fun vs ds => VRs (ba X) w2 vs ds) trivial (fun a b => VRs.app a b) vv k.toNat)
        exact q _ w3 _ (((le1.trans (g1.frz_le hp)).trans le2).trans le3) g3 v3
      · cases hm
    · cases hm
  · cases hm
def eNeg (m : ME) : ME := fun e s => match m e s with
  | some (.d (.int i), s1) => some (.d (.int (-i)), s1)
  | _ => none
theorem n_neg (h : NE X a m) : NE X (.UnaryOp .USub a pos) (eNeg m) := fun e s d s' hm => by
  unfold eNeg at hm
  split at hm
  · rename_i i s1 e1
    cases hm
    refine PE.imp (pe_un un_neg (h _ _ _ _ e1)) fun σ H Q ⟨w, g, l, q⟩ => ⟨w, g, l, fun v w1 H1 l1 g1 v1 => ?_⟩
    cases vr_int v1
    exact ⟨i, rfl, q _ w1 H1 l1 g1 vi⟩
  · cases hm

/-! ### comparisons -/
abbrev FC := Sto → D → D → Option Bool
def CmpS (X : Cx) (op : CmpOp) (f : FC) : Prop := ∀ s a b k, f s a b = some k → ∃ q, OpR X (compareOp op) q ∧ BiN (ba X) q s a b (.d (.bool k)) s
def eCmp (f : FC) : ME → ME → ME := eBin fun s a b => match f s a b with
  | some k => some (.d (.bool k), s)
  | none => none
def tCmp (f : FC) (ma mb : ME) : MT := fun e s => match ma e s with
  | some (a, s1) => match mb e s1 with
    | some (b, s2) => match f s2 a b with
      | some k => some (k, s2)
      | none => none
    | none => none
  | none => none
theorem n_cmp {op : CmpOp} {f : FC} (ho : CmpS X op f) (ha : NE X a ma) (hb : NE X b mb) (hm : behindInMarks op b = false := by first | exact nomark _ | rfl) : NE X (.Compare a [op] [b] pos) (eCmp f ma mb) := fun e s z s' h => by
  obtain ⟨x, s1, y, s2, e1, e2, e3⟩ := bin_cases h
  split at e3
  · rename_i k ek
    cases e3
    obtain ⟨q, hq, hB⟩ := ho _ _ _ _ ek
    exact PE.imp (pe_cmpR hq (ha _ _ _ _ e1) (hb _ _ _ _ e2) hm) (bi_run hB)
  · cases e3
theorem nt_cmp {op : CmpOp} {f : FC} (ho : CmpS X op f) (ha : NE X a ma) (hb : NE X b mb) (hm : behindInMarks op b = false := by first | exact nomark _ | rfl) : NT X (.Compare a [op] [b] pos) (tCmp f ma mb) := fun e s k s' h => by
  unfold tCmp at h
  split at h
  · rename_i x s1 e1
    split at h
    · rename_i y s2 e2
      split at h
      · rename_i k' ek
        cases h
        obtain ⟨q, hq, hB⟩ := ho _ _ _ _ ek
        refine PT.imp (pt_cmpR hq (ha _ _ _ _ e1) (hb _ _ _ _ e2) hm) fun σ H Q ⟨w, g, l, q'⟩ => ?_
        refine bi_run hB σ H _ ⟨w, g, l, fun v w' H' l' g' v' => ?_⟩
        exact ⟨k, vr_bl v', q' w' H' l' g'⟩
      · cases h
    · cases h
  · cases h
def c2 (f : Int → Int → Bool) : FC := fun _ a b => match a, b with
  | .d (.int i), .d (.int j) => some (f i j)
  | _, _ => none
def cLt : FC := c2 fun i j => decide (i < j)
def cLe : FC := c2 fun i j => decide (i ≤ j)
def cGt : FC := c2 fun i j => decide (j < i)
def cGe : FC := c2 fun i j => decide (j ≤ i)
theorem c2_ok {op : CmpOp} {f : Int → Int → Bool} (h : OpR X (compareOp op) (rI0 fun i j => .bl (f i j))) : CmpS X op (c2 f) := fun s a b k e => by
  unfold c2 at e
  split at e
  · cases e
    exact ⟨_, h, BiN.int (show Z.flat (.bl _) (.bool _) from rfl)⟩
  · cases e
theorem c_lt : CmpS X .Lt cLt := c2_ok op_lt
theorem c_le : CmpS X .LtE cLe := c2_ok op_le
theorem c_gt : CmpS X .Gt cGt := c2_ok op_gt
theorem c_ge : CmpS X .GtE cGe := c2_ok op_ge
/-- == of any data -/
def cEqv (s : Sto) (a b : D) : Option Bool := match a, b with
  | .d (.int i), .d (.int j) => some (decide (i = j))
  | a, b => match pd s a with
    | some x => match pd s b with
      | some y => if x.plain = true ∧ y.plain = true ∧ min x.depth y.depth ≤ 60 then some (PyData.eqv x y) else none
      | none => none
    | none => none
def cEq : FC := cEqv
def cNe : FC := fun s a b => match cEqv s a b with
  | some k => some (!k)
  | none => none
theorem eqv_int (i j : Int) : PyData.eqv (.int i) (.int j) = decide (i = j) := by
  simp only [PyData.eqv]
  rw [Bool.eq_iff_iff]
  simp
theorem eqv_cases {s : Sto} {a b : D} {k : Bool} (h : cEqv s a b = some k) : ∃ x y, pd s a = some x ∧ pd s b = some y ∧ x.plain = true ∧ y.plain = true ∧ min x.depth y.depth ≤ 60 ∧ k = PyData.eqv x y := by
  unfold cEqv at h
  split at h
  · rename_i i j
    cases h
    exact ⟨.int i, .int j, rfl, rfl, rfl, rfl, by simp [PyData.depth], (eqv_int i j).symm⟩
  · split at h
    · rename_i x e1
      split at h
      · rename_i y e2
        split at h
        · rename_i hc
          cases h
          exact ⟨x, y, e1, e2, hc.1, hc.2.1, hc.2.2, rfl⟩
        · cases h
      · cases h
    · cases h
theorem c_eq (hu : X.A.units + 64 < cLine) : CmpS X .Eq cEq := fun s a b k e => by
  obtain ⟨x, y, e1, e2, p1, p2, hd, rfl⟩ := eqv_cases e
  exact ⟨_, Z.op_eqZ, fun u v w H Q g h1 h2 q => ⟨x, y, pd_ok e1 g h1, pd_ok e2 g h2, p1, p2, by show X.A.units + _ < _; omega, q _ w H (W.le.refl w) g vb⟩⟩
theorem c_ne (hu : X.A.units + 64 < cLine) : CmpS X .NotEq cNe := fun s a b k e => by
  unfold cNe at e
  split at e
  · rename_i k' e'
    cases e
    obtain ⟨x, y, e1, e2, p1, p2, hd, rfl⟩ := eqv_cases e'
    exact ⟨_, Z.op_neZ, fun u v w H Q g h1 h2 q => ⟨x, y, pd_ok e1 g h1, pd_ok e2 g h2, p1, p2, by show X.A.units + _ < _; omega, q _ w H (W.le.refl w) g vb⟩⟩
  · cases e
/-- is None -/
def isNone : D → Bool
  | .d .none => true
  | _ => false
def cIsN (neg : Bool) : FC := fun s a b => match b with
  | .d .none => some (if neg then !isNone a else isNone a)
  | _ => none
theorem isNone_ok {B : Ba} {w : W} {v : V} {a : D} (h : VR B w v a) : isNone a = decide (v = .non) := by
  cases a with
  | r j => obtain ⟨p, _, rfl⟩ := h; rfl
  | d x => cases h <;> rfl
theorem c_is : CmpS X .Is (cIsN false) := fun s a b k e => by
  unfold cIsN at e
  split at e
  · cases e
    refine ⟨_, op_isN, fun u v w H Q g h1 h2 q => ?_⟩
    cases vr_non h2
    exact ⟨rfl, q _ w H (W.le.refl w) g (by rw [isNone_ok h1]; exact vb)⟩
  · cases e
theorem c_isnot : CmpS X .IsNot (cIsN true) := fun s a b k e => by
  unfold cIsN at e
  split at e
  · cases e
    refine ⟨_, op_notN, fun u v w H Q g h1 h2 q => ?_⟩
    cases vr_non h2
    exact ⟨rfl, q _ w H (W.le.refl w) g (by rw [isNone_ok h1]; exact vb)⟩
  · cases e
end
end N

namespace N
open PySem L2 PyProof.Rows
open Z (Ext dpUp dpsUp dpsLen dpsGet DxO KyD DEn Cl cut)
section
variable {X : Cx} {ex a b c : Expr} {es : List Expr} {m ma mb mc : ME} {ms : MA} {mt mu : MT} {pos p : Pos} {f : FB}

/-! ### tests -/
def truD (s : Sto) : D → Option Bool
  | .d .none => some false
  | .d (.bool b) => some b
  | .d (.int i) => some (i != 0)
  | .d (.str y) => if y.length ≤ lim then some ((y.length : Int) != 0) else none
  | .d (.tuple xs) => some (!xs.isEmpty)
  | .d (.list xs) => some (!xs.isEmpty)
  | .d (.dict _) => none
  | .r j => match s[j]? with
    | some (.lst ds) => some (!ds.isEmpty)
    | some (.dk kvs) => some (!kvs.isEmpty)
    | _ => none
theorem len_empty {α β : Type} {l : List α} {m : List β} (h : l.length = m.length) : l.isEmpty = m.isEmpty := Z.empty_len h
theorem KR.len {B : Ba} {w : W} : ∀ {xs : List (Key × V)} {kvs : List (Key × D)}, KR B w xs kvs → xs.length = kvs.length
  | [], [], _ => rfl
  | v :: vs, d :: ds, ⟨h1, h2⟩ => by simp [KR.len h2]
  | [], _ :: _, h => h.elim
  | _ :: _, [], h => h.elim
theorem tru_ok {B : Ba} {w : W} {s : Sto} {H : Hp} {v : V} {d : D} {k : Bool} (h : truD s d = some k) (g : Ok B w s H) (hv : VR B w v d) : TruV B.K v H k := by
  cases d with
  | d x =>
    cases hv with
    | non => cases h; rfl
    | bl b => cases h; rfl
    | int i => cases h; rfl
    | str y =>
      have h : (if y.length ≤ lim then some ((y.length : Int) != 0) else none) = some k := h
      split at h
      · rename_i hl
        cases h
        exact ⟨Nat.le_trans hl (Nat.le_of_lt lim_lt), rfl⟩
      · cases h
    | lst hs ha => cases h; exact .inl ⟨_, g.ext.l hs, by rw [len_empty (dpsLen ha)]⟩
    | tup hs ha => cases h; exact .inr (.inl ⟨_, g.ext.t hs, by rw [len_empty (dpsLen ha)]⟩)
  | r j =>
    obtain ⟨q, h1, rfl⟩ := hv
    have h : (match s[j]? with
      | some (.lst ds) => some (!ds.isEmpty)
      | some (.dk kvs) => some (!kvs.isEmpty)
      | _ => none) = some k := h
    split at h
    · rename_i ds e
      cases h
      obtain ⟨_, vs, h2, h3⟩ := g.ce _ _ q e h1
      exact .inl ⟨_, .of h2, by rw [len_empty h3.len]⟩
    · rename_i ds e
      cases h
      obtain ⟨_, vs, h2, h3⟩ := g.ce _ _ q e h1
      exact .inr (.inr ⟨_, h2, by rw [len_empty h3.len]⟩)
    · cases h
def tVal (m : ME) : MT := fun e s => match m e s with
  | some (d, s1) => match truD s1 d with
    | some k => some (k, s1)
    | none => none
  | none => none
theorem nt_val (h : NE X ex m) (he : ∀ whole, isTrue ex X.env whole = (do let v ← whole; standAt ex.pos; holding [v] (truthy v)) := by intro _; rfl) : NT X ex (tVal m) := fun e s k s' hm => by
  unfold tVal at hm
  split at hm
  · rename_i d s1 e1
    split at hm
    · rename_i k' e2
      cases hm
      exact PT.imp (pt_truth (h _ _ _ _ e1) he) fun σ H Q ⟨w, g, l, q⟩ => ⟨w, g, l, fun v w1 H1 l1 g1 v1 => ⟨k, tru_ok e2 g1 v1, q w1 H1 l1 g1⟩⟩
    · cases hm
  · cases hm
def tNot (mt : MT) : MT := fun e s => match mt e s with
  | some (k, s1) => some (!k, s1)
  | none => none
theorem nt_not (h : NT X a mt) : NT X (.UnaryOp .Not a pos) (tNot mt) := fun e s k s' hm => by
  unfold tNot at hm
  split at hm
  · rename_i k' s1 e1
    cases hm
    exact PT.imp (pt_not (h _ _ _ _ e1)) fun σ H Q ⟨w, g, l, q⟩ => ⟨w, g, l, fun w1 H1 l1 g1 => q w1 H1 l1 g1⟩
  · cases hm
def tAnd (mt mu : MT) : MT := fun e s => match mt e s with
  | some (true, s1) => mu e s1
  | some (false, s1) => some (false, s1)
  | none => none
def tOr (mt mu : MT) : MT := fun e s => match mt e s with
  | some (false, s1) => mu e s1
  | some (true, s1) => some (true, s1)
  | none => none
theorem nw_and1 (h : NT X a mt) : NW X (.BoolOp .And [a] pos) mt := fun e s k s' hm => pw_and1 (h _ _ _ _ hm)
theorem nw_or1 (h : NT X a mt) : NW X (.BoolOp .Or [a] pos) mt := fun e s k s' hm => pw_or1 (h _ _ _ _ hm)
theorem nw_and (h1 : NT X a mt) (h2 : NW X (.BoolOp .And (b :: es) pos) mu) : NW X (.BoolOp .And (a :: b :: es) pos) (tAnd mt mu) := fun e s k s' hm => by
  unfold tAnd at hm
  split at hm
  · rename_i s1 e1
    exact PW.imp (pw_and (h1 _ _ _ _ e1) (h2 _ _ _ _ hm)) fun σ H Q ⟨w, g, l, q⟩ => ⟨w, g, l, fun w1 H1 l1 g1 => ⟨w1, g1, l.up l1, fun w2 H2 l2 g2 => q w2 H2 (l1.trans l2) g2⟩⟩
  · rename_i s1 e1
    cases hm
    exact PW.imp (pw_and (h1 _ _ _ _ e1) h2.fam) fun σ H Q ⟨w, g, l, q⟩ => ⟨w, g, l, fun w1 H1 l1 g1 => q w1 H1 l1 g1⟩
  · cases hm
theorem nw_or (h1 : NT X a mt) (h2 : NW X (.BoolOp .Or (b :: es) pos) mu) : NW X (.BoolOp .Or (a :: b :: es) pos) (tOr mt mu) := fun e s k s' hm => by
  unfold tOr at hm
  split at hm
  · rename_i s1 e1
    exact PW.imp (pw_or (h1 _ _ _ _ e1) (h2 _ _ _ _ hm)) fun σ H Q ⟨w, g, l, q⟩ => ⟨w, g, l, fun w1 H1 l1 g1 => ⟨w1, g1, l.up l1, fun w2 H2 l2 g2 => q w2 H2 (l1.trans l2) g2⟩⟩
  · rename_i s1 e1
    cases hm
    exact PW.imp (pw_or (h1 _ _ _ _ e1) h2.fam) fun σ H Q ⟨w, g, l, q⟩ => ⟨w, g, l, fun w1 H1 l1 g1 => q w1 H1 l1 g1⟩
  · cases hm
theorem nt_bo {op : BoolOp} (h : NW X (.BoolOp op es pos) mt) : NT X (.BoolOp op es pos) mt := fun e s k s' hm => PW.pt (h _ _ _ _ hm)

/-! ### and, or, not as values; if as a value -/
theorem n_one {op : BoolOp} (h : NE X a m) : NE X (.BoolOp op [a] pos) m := fun e s d s' hm => pe_one (h _ _ _ _ hm)
def eAnd (ma mb : ME) : ME := fun e s => match ma e s with
  | some (d, s1) => match truD s1 d with
    | some true => mb e s1
    | some false => some (d, s1)
    | none => none
  | none => none
def eOr (ma mb : ME) : ME := fun e s => match ma e s with
  | some (d, s1) => match truD s1 d with
    | some false => mb e s1
    | some true => some (d, s1)
    | none => none
  | none => none
theorem n_and (h1 : NE X a ma) (h2 : NE X (.BoolOp .And (b :: es) pos) mb) : NE X (.BoolOp .And (a :: b :: es) pos) (eAnd ma mb) := fun e s d s' hm => by
  unfold eAnd at hm
  split at hm
  · rename_i d1 s1 e1
    split at hm
    · rename_i e2
      refine PE.imp (pe_andT (h1 _ _ _ _ e1) (h2 _ _ _ _ hm)) fun σ H Q ⟨w, g, l, q⟩ => ⟨w, g, l, fun v w1 H1 l1 g1 v1 => ?_⟩
      exact ⟨true, tru_ok e2 g1 v1, ⟨w1, g1, l.up l1, fun v w2 H2 l2 g2 v2 => q v w2 H2 (l1.trans l2) g2 v2⟩⟩
    · rename_i e2
      cases hm
      refine PE.imp (pe_andT (h1 _ _ _ _ e1) h2.fam) fun σ H Q ⟨w, g, l, q⟩ => ⟨w, g, l, fun v w1 H1 l1 g1 v1 => ?_⟩
      exact ⟨false, tru_ok e2 g1 v1, q v w1 H1 l1 g1 v1⟩
    · cases hm
  · cases hm
theorem n_or (h1 : NE X a ma) (h2 : NE X (.BoolOp .Or (b :: es) pos) mb) : NE X (.BoolOp .Or (a :: b :: es) pos) (eOr ma mb) := fun e s d s' hm => by
  unfold eOr at hm
  split at hm
  · rename_i d1 s1 e1
    split at hm
    · rename_i e2
      refine PE.imp (pe_orT (h1 _ _ _ _ e1) (h2 _ _ _ _ hm)) fun σ H Q ⟨w, g, l, q⟩ => ⟨w, g, l, fun v w1 H1 l1 g1 v1 => ?_⟩
      exact ⟨false, tru_ok e2 g1 v1, ⟨w1, g1, l.up l1, fun v w2 H2 l2 g2 v2 => q v w2 H2 (l1.trans l2) g2 v2⟩⟩
    · rename_i e2
      cases hm
      refine PE.imp (pe_orT (h1 _ _ _ _ e1) h2.fam) fun σ H Q ⟨w, g, l, q⟩ => ⟨w, g, l, fun v w1 H1 l1 g1 v1 => ?_⟩
      exact ⟨true, tru_ok e2 g1 v1, q v w1 H1 l1 g1 v1⟩
    · cases hm
  · cases hm
def eNot (m : ME) : ME := fun e s => match m e s with
  | some (d, s1) => match truD s1 d with
    | some k => some (.d (.bool (!k)), s1)
    | none => none
  | none => none
theorem n_not (h : NE X a m) : NE X (.UnaryOp .Not a pos) (eNot m) := fun e s d s' hm => by
  unfold eNot at hm
  split at hm
  · rename_i d1 s1 e1
    split at hm
    · rename_i k e2
      cases hm
      exact PE.imp (pe_notT (h _ _ _ _ e1)) fun σ H Q ⟨w, g, l, q⟩ => ⟨w, g, l, fun v w1 H1 l1 g1 v1 => ⟨k, tru_ok e2 g1 v1, q _ w1 H1 l1 g1 vb⟩⟩
    · cases hm
  · cases hm
def eIte (mt : MT) (ma mb : ME) : ME := fun e s => match mt e s with
  | some (true, s1) => ma e s1
  | some (false, s1) => mb e s1
  | none => none
theorem n_ite (hc : NT X c mt) (ha : NE X a ma) (hb : NE X b mb) : NE X (.IfExp c a b pos) (eIte mt ma mb) := fun e s d s' hm => by
  unfold eIte at hm
  split at hm
  · rename_i s1 e1
    exact PE.imp (pe_ifExp (hc _ _ _ _ e1) (ha _ _ _ _ hm) Z.pe_noway) fun σ H Q ⟨w, g, l, q⟩ => ⟨w, g, l, fun w1 H1 l1 g1 => ⟨w1, g1, l.up l1, fun v w2 H2 l2 g2 v2 => q v w2 H2 (l1.trans l2) g2 v2⟩⟩
  · rename_i s1 e1
    exact PE.imp (pe_ifExp (hc _ _ _ _ e1) Z.pe_noway (hb _ _ _ _ hm)) fun σ H Q ⟨w, g, l, q⟩ => ⟨w, g, l, fun w1 H1 l1 g1 => ⟨w1, g1, l.up l1, fun v w2 H2 l2 g2 v2 => q v w2 H2 (l1.trans l2) g2 v2⟩⟩
  · cases hm
/-- a < b < c of numbers; the last one leaves the store -/
def chK (f g : Int → Int → Bool) (ma mb mc : ME) : MT := fun e s => match ma e s with
  | some (.d (.int i), s1) => match mb e s1 with
    | some (.d (.int j), s2) => if f i j then match mc e s2 with
        | some (.d (.int k), s3) => some (g j k, s3)
        | _ => none
      else some (false, s2)
    | _ => none
  | _ => none
def eCh (f g : Int → Int → Bool) (ma mb mc : ME) : ME := fun e s => match chK f g ma mb mc e s with
  | some (k, s1) => some (.d (.bool k), s1)
  | none => none
theorem ch_cases {f g : Int → Int → Bool} {e : Lo} {s s' : Sto} {k : Bool} (h : chK f g ma mb mc e s = some (k, s')) : ∃ i s1 j s2, ma e s = some (.d (.int i), s1) ∧ mb e s1 = some (.d (.int j), s2) ∧ ((f i j = true ∧ ∃ l, mc e s2 = some (.d (.int l), s') ∧ k = g j l) ∨ (f i j = false ∧ k = false ∧ s' = s2)) := by
  unfold chK at h
  split at h
  · rename_i i s1 e1
    split at h
    · rename_i j s2 e2
      refine ⟨i, s1, j, s2, e1, e2, ?_⟩
      split at h
      · rename_i hf
        split at h
        · rename_i l s3 e3
          cases h
          exact .inl ⟨hf, l, e3, rfl⟩
        · cases h
      · rename_i hf
        cases h
        exact .inr ⟨by simpa using hf, rfl, rfl⟩
    · cases h
  · cases h
theorem n_ch {op op' : CmpOp} {f g : Int → Int → Bool} (h1 : OpR X (compareOp op) (rI0 fun i j => .bl (f i j))) (h2 : OpR X (compareOp op') (rI0 fun i j => .bl (g i j))) (ha : NE X a ma) (hb : NE X b mb) (hc : NE X c mc) (hm : lastMarks [op, op'] [b, c] = false := by with_unfolding_all rfl) :
    NE X (.Compare a [op, op'] [b, c] pos) (eCh f g ma mb mc) := fun e s d s' h => by
  unfold eCh at h
  split at h
  · rename_i k s1' e0
    cases h
    obtain ⟨i, s1, j, s2, e1, e2, h3⟩ := ch_cases e0
    rcases h3 with ⟨hf, l, e3, rfl⟩ | ⟨hf, rfl, rfl⟩
    · refine PE.imp (pe_chain h1 h2 (ha _ _ _ _ e1) (hb _ _ _ _ e2) (hc _ _ _ _ e3) hm) fun σ H Q ⟨w, G, L, q⟩ => ?_
      refine ⟨w, G, L, fun v w1 H1 l1 g1 v1 => ⟨w1, g1, L.up l1, fun u w2 H2 l2 g2 v2 => ?_⟩⟩
      cases vr_int v1
      cases vr_int v2
      refine ⟨i, j, rfl, rfl, _, rfl, ?_⟩
      rw [hf, if_pos rfl]
      refine ⟨w2, g2, (L.up l1).up l2, fun z w3 H3 l3 g3 v3 => ?_⟩
      cases vr_int v3
      exact ⟨j, l, rfl, rfl, q _ w3 H3 ((l1.trans l2).trans l3) g3 vb⟩
    · refine PE.imp (pe_chain h1 h2 (ha _ _ _ _ e1) (hb _ _ _ _ e2) hc.fam hm) fun σ H Q ⟨w, G, L, q⟩ => ?_
      refine ⟨w, G, L, fun v w1 H1 l1 g1 v1 => ⟨w1, g1, L.up l1, fun u w2 H2 l2 g2 v2 => ?_⟩⟩
      cases vr_int v1
      cases vr_int v2
      refine ⟨i, j, rfl, rfl, _, rfl, ?_⟩
      rw [hf, if_neg Bool.false_ne_true]
      exact q _ w2 H2 (l1.trans l2) g2 vb
  · cases h
theorem nt_ch {op op' : CmpOp} {f g : Int → Int → Bool} (h1 : OpR X (compareOp op) (rI0 fun i j => .bl (f i j))) (h2 : OpR X (compareOp op') (rI0 fun i j => .bl (g i j))) (ha : NE X a ma) (hb : NE X b mb) (hc : NE X c mc) (hm : lastMarks [op, op'] [b, c] = false := by with_unfolding_all rfl) :
    NT X (.Compare a [op, op'] [b, c] pos) (chK f g ma mb mc) := fun e s d s' e0 => by
  obtain ⟨i, s1, j, s2, e1, e2, h3⟩ := ch_cases e0
  rcases h3 with ⟨hf, l, e3, rfl⟩ | ⟨hf, rfl, rfl⟩
  · refine PT.imp (pt_chain h1 h2 (ha _ _ _ _ e1) (hb _ _ _ _ e2) (hc _ _ _ _ e3) hm) fun σ H Q ⟨w, G, L, q⟩ => ?_
    refine ⟨w, G, L, fun v w1 H1 l1 g1 v1 => ⟨w1, g1, L.up l1, fun u w2 H2 l2 g2 v2 => ?_⟩⟩
    cases vr_int v1
    cases vr_int v2
    refine ⟨i, j, rfl, rfl, _, rfl, ?_⟩
    rw [hf, if_pos rfl]
    refine ⟨w2, g2, (L.up l1).up l2, fun z w3 H3 l3 g3 v3 => ?_⟩
    cases vr_int v3
    exact ⟨j, l, rfl, rfl, _, rfl, q w3 H3 ((l1.trans l2).trans l3) g3⟩
  · refine PT.imp (pt_chain h1 h2 (ha _ _ _ _ e1) (hb _ _ _ _ e2) hc.fam hm) fun σ H Q ⟨w, G, L, q⟩ => ?_
    refine ⟨w, G, L, fun v w1 H1 l1 g1 v1 => ⟨w1, g1, L.up l1, fun u w2 H2 l2 g2 v2 => ?_⟩⟩
    cases vr_int v1
    cases vr_int v2
    refine ⟨i, j, rfl, rfl, _, rfl, ?_⟩
    rw [hf, if_neg Bool.false_ne_true]
    exact ⟨_, rfl, q w2 H2 (l1.trans l2) g2⟩

/-! ### in -/
def cInQ (neg : Bool) (x : PyData) (ds : List PyData) : Option Bool :=
  if PyData.plainAll ds = true ∧ x.plain = true ∧ min (PyData.depthAll ds) x.depth ≤ 60 then some (if neg then !(ds.any fun z => PyData.eqv z x) else ds.any fun z => PyData.eqv z x) else none
noncomputable def dHas (kvs : List (PyData × D)) (x : PyData) : Bool := kvs.any fun kv => decide (kv.1 = x)
def kHas (kvs : List (Key × D)) (k : Key) : Bool := kvs.any fun kv => decide (kv.1 = k)
def isKey (x : PyData) : Bool := Z.isTup x && Z.kOK x && decide (Z.dep x ≤ 8)
def keyOf : PyData → Option Key
  | .int i => some (.inl i)
  | .str x => some (.inr x)
  | _ => none
/-- x in: a tuple, a list, a dict of the store -/
noncomputable def cIn (neg : Bool) : FC := fun s a b => match b with
  | .d (.tuple ds) => match pd s a with
    | some x => cInQ neg x ds
    | none => none
  | .d (.list ds) => match pd s a with
    | some x => cInQ neg x ds
    | none => none
  | .r j => match s[j]? with
    | some (.lst ds) => match data ds with
      | some ds => match pd s a with
        | some x => cInQ neg x ds
        | none => none
      | none => none
    | some (.dic kvs) => match a with
      | .d x => if isKey x then some (if neg then !dHas kvs x else dHas kvs x) else none
      | _ => none
    | some (.dk kvs) => match a with
      | .d x => match keyOf x with
        | some k => some (if neg then !kHas kvs k else kHas kvs k)
        | none => none
      | _ => none
    | _ => none
  | _ => none
theorem DR.has {B : Ba} {w : W} {x : PyData} : ∀ {xs : List DEn} {kvs : List (PyData × D)}, DR B w xs kvs → (atKey xs x).isSome = dHas kvs x
  | [], [], _ => rfl
  | e :: xs, kv :: kvs, ⟨⟨h1, _⟩, h⟩ => by
    have ih := DR.has (x := x) h
    unfold atKey dHas at ih ⊢
    rw [Option.isSome_map] at ih ⊢
    rw [List.find?_cons, List.any_cons, ← ih, h1]
    by_cases hk : kv.1 = x
    · simp [hk]
    · simp [hk]
  | [], _ :: _, h => h.elim
  | _ :: _, [], h => h.elim
theorem DR.ky {B : Ba} {w : W} {H : Hp} (e : Ext w.F H) : ∀ {xs : List DEn} {kvs : List (PyData × D)}, DR B w xs kvs → ∀ x ∈ xs, KyD B.K H x.2.1 x.1
  | [], [], _, x, h => by cases h
  | y :: xs, kv :: kvs, ⟨⟨_, ⟨h2, h3⟩, _⟩, h⟩, x, hx => by
    rcases List.mem_cons.mp hx with rfl | hx
    · exact ⟨dpUp e _ _ h2, h3⟩
    · exact DR.ky e h x hx
  | [], _ :: _, h, _, _ => h.elim
  | _ :: _, [], h, _, _ => h.elim
theorem key_ok {B : Ba} {w : W} {v : V} {x : PyData} (hk : isKey x = true) (hv : VR B w v (.d x)) : ∃ b, v = .ref b ∧ KyD B.K w.F b x := by
  unfold isKey at hk
  simp only [Bool.and_eq_true, decide_eq_true_eq] at hk
  obtain ⟨⟨h1, h2⟩, h3⟩ := hk
  cases x with
  | tuple ds =>
    have hv' : Dp B.K w.F v (.tuple ds) := hv
    obtain ⟨b, vs, rfl, _, _⟩ := dp_tup hv'
    exact ⟨b, rfl, hv', h2, h3⟩
  | _ => simp [Z.isTup] at h1
theorem keyOf_ok {B : Ba} {w : W} {v : V} {x : PyData} {k : Key} (hk : keyOf x = some k) (hv : VR B w v (.d x)) : v = kV k := by
  cases x with
  | int i => cases hk; exact vr_int hv
  | str i => cases hk; exact vr_str hv
  | _ => cases hk
end
end N

namespace N
open PySem L2 PyProof.Rows
open Z (Ext dpUp dpsUp dpsLen dpsGet DxO KyD DEn Cl cut)
section
variable {X : Cx} {ex a b c : Expr} {es : List Expr} {m ma mb mc : ME} {ms : MA} {mt mu : MT} {pos p : Pos}

/-! ### calls of built-ins -/
abbrev FA := Sto → List D → Option (D × Sto)
def CaN (B : Ba) (q : List V → Hp → VK → Prop) (s : Sto) (ds : List D) (z : D) (s' : Sto) : Prop := ∀ us w H Q, Ok B w s H → VRs B w us ds → (∀ v w' H', w.le w' → Ok B w' s' H' → VR B w' v z → Q v H') → q us H Q
def CalS (X : Cx) (u : Value) (f : FA) : Prop := ∀ s ds z s', f s ds = some (z, s') → ∃ q, CallR X u q ∧ CaN (ba X) q s ds z s'
def eCall (f : FA) (ms : MA) : ME := fun e s => match ms e s with
  | some (ds, s1) => f s1 ds
  | none => none
theorem call_cases {f : FA} {e : Lo} {s s' : Sto} {z : D} (h : eCall f ms e s = some (z, s')) : ∃ ds s1, ms e s = some (ds, s1) ∧ f s1 ds = some (z, s') := by
  unfold eCall at h
  split at h
  · rename_i ds s1 e1
    exact ⟨ds, s1, e1, h⟩
  · cases h
theorem n_callB {f : FA} {id : String} {x : Str} (hc : CalS X (.builtin id) f) (ha : NA X (ex :: es) ms) (hm : X.mg x = none) (hv : bootBuiltins x = some (.builtin id) := by decide +kernel) (cl : Cl X x ex es pos := by exact ⟨rfl, rfl, rfl⟩) (hn : x ≠ "__name__" := by decide)
    (hdb : (x == ("__debug__" : Str)) = false := by decide) : NE X (.Call (.Name x p) (ex :: es) [] pos) (eCall f ms) := fun e s z s' h => by
  obtain ⟨ds, s1, e1, e2⟩ := call_cases h
  obtain ⟨q, hq, hB⟩ := hc _ _ _ _ e2
  exact PE.imp (pe_callB hq cl.1 hm hv (ha _ _ _ _ e1) hn hdb cl.2.1 cl.2.2) fun σ H Q ⟨w, g, l, k⟩ => ⟨w, g, l, fun us w1 H1 l1 g1 v1 => hB us w1 H1 Q g1 v1 fun v w2 H2 l2 g2 v2 => k v w2 H2 (l1.trans l2) g2 v2⟩
theorem n_callT {f : FA} {id : String} {x : Str} (hc : CalS X (.type id) f) (ha : NA X (ex :: es) ms) (hm : X.mg x = none) (hv : bootBuiltins x = some (.type id) := by decide +kernel) (cl : Cl X x ex es pos := by exact ⟨rfl, rfl, rfl⟩) (hn : x ≠ "__name__" := by decide)
    (hdb : (x == ("__debug__" : Str)) = false := by decide) : NE X (.Call (.Name x p) (ex :: es) [] pos) (eCall f ms) := fun e s z s' h => by
  obtain ⟨ds, s1, e1, e2⟩ := call_cases h
  obtain ⟨q, hq, hB⟩ := hc _ _ _ _ e2
  exact PE.imp (pe_callTy hq cl.1 hm hv (ha _ _ _ _ e1) hn hdb cl.2.1 cl.2.2) fun σ H Q ⟨w, g, l, k⟩ => ⟨w, g, l, fun us w1 H1 l1 g1 v1 => hB us w1 H1 Q g1 v1 fun v w2 H2 l2 g2 v2 => k v w2 H2 (l1.trans l2) g2 v2⟩
theorem vrs1 {B : Ba} {w : W} {us : List V} {d : D} (h : VRs B w us [d]) : ∃ u, us = [u] ∧ VR B w u d := by
  match us, h with
  | [u], ⟨h1, _⟩ => exact ⟨u, rfl, h1⟩
theorem vrs2 {B : Ba} {w : W} {us : List V} {d d' : D} (h : VRs B w us [d, d']) : ∃ u v, us = [u, v] ∧ VR B w u d ∧ VR B w v d' := by
  match us, h with
  | [u, v], ⟨h1, h2, _⟩ => exact ⟨u, v, rfl, h1, h2⟩
/-- one argument, a datum out, the store as it was -/
def f1 (g : Sto → D → Option PyData) : FA := fun s ds => match ds with
  | [d] => match g s d with
    | some x => some (.d x, s)
    | none => none
  | _ => none
theorem f1_ok {u : Value} {g : Sto → D → Option PyData} (h : ∀ s d x, g s d = some x → ∃ q, CallR X u q ∧ ∀ v w H Q, Ok (ba X) w s H → VR (ba X) w v d → (∀ v' w' H', w.le w' → Ok (ba X) w' s H' → VR (ba X) w' v' (.d x) → Q v' H') → q [v] H Q) : CalS X u (f1 g) := fun s ds z s' e => by
  unfold f1 at e
  split at e
  · rename_i d
    split at e
    · rename_i x e1
      cases e
      obtain ⟨q, h1, h2⟩ := h s d x e1
      refine ⟨q, h1, fun us w H Q G hv k => ?_⟩
      obtain ⟨v, rfl, hv1⟩ := vrs1 hv
      exact h2 v w H Q G hv1 k
    · cases e
  · cases e
def lenG (s : Sto) : D → Option PyData
  | .d (.str x) => if x.length ≤ lim then some (.int (x.length : Nat)) else none
  | .d (.tuple xs) => some (.int (xs.length : Nat))
  | d => match asL s d with
    | some ds => some (.int (ds.length : Nat))
    | none => none
def bLen : FA := f1 lenG
theorem b_len : CalS X (.builtin "len") bLen := f1_ok fun s d x e => by
  unfold lenG at e
  split at e
  · rename_i y
    split at e
    · rename_i hl
      cases e
      refine ⟨_, call_len_str, fun v w H Q G hv k => ?_⟩
      cases vr_str hv
      exact ⟨y, rfl, Nat.le_trans hl (Nat.le_of_lt lim_lt), k _ w H (W.le.refl w) G vi⟩
    · cases e
  · rename_i xs
    cases e
    refine ⟨_, call_len_seq, fun v w H Q G hv k => ?_⟩
    obtain ⟨q, vs, rfl, h1, h2⟩ := dp_tup hv
    exact ⟨q, vs, rfl, .inr (G.ext.t h1), k _ w H (W.le.refl w) G (by rw [dpsLen h2]; exact vi)⟩
  · split at e
    · rename_i ds e1
      cases e
      refine ⟨_, call_len_seq, fun v w H Q G hv k => ?_⟩
      obtain ⟨q, vs, rfl, h1, h2⟩ := asL_ok e1 G hv
      exact ⟨q, vs, rfl, .inl h1, k _ w H (W.le.refl w) G (by rw [h2.len]; exact vi)⟩
    · cases e
def bAbs : FA := f1 fun _ d => match d with
  | .d (.int i) => some (.int (if i < 0 then -i else i))
  | _ => none
theorem b_abs : CalS X (.builtin "abs") bAbs := f1_ok fun s d x e => by
  split at e
  · rename_i i
    cases e
    refine ⟨_, call_abs, fun v w H Q G hv k => ?_⟩
    cases vr_int hv
    exact ⟨i, rfl, k _ w H (W.le.refl w) G vi⟩
  · cases e
def bInt : FA := f1 fun _ d => match d with
  | .d (.int i) => some (.int i)
  | .d (.bool b) => some (.int (if b then 1 else 0))
  | _ => none
theorem b_int : CalS X (.type "int") bInt := f1_ok fun s d x e => by
  split at e
  · rename_i i
    cases e
    refine ⟨_, call_int1, fun v w H Q G hv k => ?_⟩
    cases vr_int hv
    exact .inl ⟨i, rfl, k _ w H (W.le.refl w) G vi⟩
  · rename_i b
    cases e
    refine ⟨_, call_int1, fun v w H Q G hv k => ?_⟩
    cases vr_bl hv
    exact .inr ⟨b, rfl, k _ w H (W.le.refl w) G vi⟩
  · cases e
def bStr : FA := f1 fun _ d => match d with
  | .d (.int i) => if i.natAbs.log2 < 1920 then some (.str (toString i)) else none
  | _ => none
theorem b_str : CalS X (.type "str") bStr := f1_ok fun s d x e => by
  split at e
  · rename_i i
    split at e
    · rename_i hl
      cases e
      refine ⟨_, call_str_int, fun v w H Q G hv k => ?_⟩
      cases vr_int hv
      exact ⟨i, rfl, hl, k _ w H (W.le.refl w) G vs'⟩
    · cases e
  · cases e
def intsOf : List D → Option (List Int)
  | [] => some []
  | .d (.int i) :: r => match intsOf r with
    | some xs => some (i :: xs)
    | none => none
  | _ => none
theorem ints_map (xs : List Int) : intsOf (xs.map fun i => .d (.int i)) = some xs := by
  induction xs with
  | nil => rfl
  | cons x xs ih => rw [List.map_cons]; unfold intsOf; rw [ih]
theorem ints_eq : ∀ {ds : List D} {xs : List Int}, intsOf ds = some xs → ds = xs.map fun i => .d (.int i)
  | [], xs, h => by cases h; rfl
  | .d (.int x) :: r, xs, h => by
    unfold intsOf at h
    split at h
    · rename_i ys e
      cases h
      rw [ints_eq e]; rfl
    · cases h
  | .r _ :: _, _, h => by cases h
  | .d .none :: _, _, h => by cases h
  | .d (.bool _) :: _, _, h => by cases h
  | .d (.str _) :: _, _, h => by cases h
  | .d (.list _) :: _, _, h => by cases h
  | .d (.tuple _) :: _, _, h => by cases h
  | .d (.dict _) :: _, _, h => by cases h
theorem vrs_ints {B : Ba} {w : W} : ∀ {xs : List Int} {vs : List V}, VRs B w vs (xs.map fun i => .d (.int i)) → vs = xs.map V.int
  | [], [], _ => rfl
  | x :: xs, v :: vs, ⟨h1, h2⟩ => by rw [vr_int h1, vrs_ints h2]; rfl
  | [], _ :: _, h => h.elim
  | _ :: _, [], h => h.elim
def bools : List D → Option (List Bool)
  | [] => some []
  | .d (.bool i) :: r => match bools r with
    | some xs => some (i :: xs)
    | none => none
  | _ => none
theorem bools_map (xs : List Bool) : bools (xs.map fun i => .d (.bool i)) = some xs := by
  induction xs with
  | nil => rfl
  | cons x xs ih => rw [List.map_cons]; unfold bools; rw [ih]
theorem bools_eq : ∀ {ds : List D} {xs : List Bool}, bools ds = some xs → ds = xs.map fun i => .d (.bool i)
  | [], xs, h => by cases h; rfl
  | .d (.bool x) :: r, xs, h => by
    unfold bools at h
    split at h
    · rename_i ys e
      cases h
      rw [bools_eq e]; rfl
    · cases h
  | .r _ :: _, _, h => by cases h
  | .d .none :: _, _, h => by cases h
  | .d (.int _) :: _, _, h => by cases h
  | .d (.str _) :: _, _, h => by cases h
  | .d (.list _) :: _, _, h => by cases h
  | .d (.tuple _) :: _, _, h => by cases h
  | .d (.dict _) :: _, _, h => by cases h
theorem vrs_bools {B : Ba} {w : W} : ∀ {xs : List Bool} {vs : List V}, VRs B w vs (xs.map fun i => .d (.bool i)) → vs = xs.map V.bl
  | [], [], _ => rfl
  | x :: xs, v :: vs, ⟨h1, h2⟩ => by rw [vr_bl h1, vrs_bools h2]; rfl
  | [], _ :: _, h => h.elim
  | _ :: _, [], h => h.elim
def qL (g : List D → Option PyData) : FA := f1 fun s d => match asL s d with
  | some ds => g ds
  | none => none
def bAll : FA := qL fun ds => match bools ds with
  | some bs => some (.bool (bs.all id))
  | none => none
def bAny : FA := qL fun ds => match bools ds with
  | some bs => some (.bool (bs.any id))
  | none => none
def bSum : FA := qL fun ds => match intsOf ds with
  | some bs => some (.int bs.sum)
  | none => none
theorem qL_ok {u : Value} {g : List D → Option PyData} {q : List V → Hp → VK → Prop} (hq : CallR X u q) (h : ∀ ds x, g ds = some x → ∀ p vs w s H (Q : VK), SqL X.K H p vs → VRs (ba X) w vs ds → Ok (ba X) w s H → (∀ v', VR (ba X) w v' (.d x) → Q v' H) → q [.ref p] H Q) : CalS X u (qL g) := f1_ok fun s d x e => by
  split at e
  · rename_i ds e1
    refine ⟨q, hq, fun v w H Q G hv k => ?_⟩
    obtain ⟨p, vs, rfl, h1, h2⟩ := asL_ok e1 G hv
    exact h ds x e p vs w s H Q h1 h2 G fun v' hv' => k v' w H (W.le.refl w) G hv'
  · cases e
theorem b_all (hk : X.calm = true) : CalS X (.builtin "all") bAll := qL_ok (cr_all hk) fun ds x e p vs w s H Q h1 h2 G k => by
  split at e
  · rename_i bs e1
    cases e
    rw [bools_eq e1] at h2
    cases vrs_bools h2
    exact ⟨p, bs, rfl, h1, k _ vb⟩
  · cases e
theorem b_any (hk : X.calm = true) : CalS X (.builtin "any") bAny := qL_ok (cr_any hk) fun ds x e p vs w s H Q h1 h2 G k => by
  split at e
  · rename_i bs e1
    cases e
    rw [bools_eq e1] at h2
    cases vrs_bools h2
    exact ⟨p, bs, rfl, h1, k _ vb⟩
  · cases e
theorem b_sum (hk : X.calm = true) : CalS X (.builtin "sum") bSum := qL_ok (cr_sum hk) fun ds x e p vs w s H Q h1 h2 G k => by
  split at e
  · rename_i bs e1
    cases e
    rw [ints_eq e1] at h2
    cases vrs_ints h2
    exact ⟨p, bs, rfl, h1, k _ vi⟩
  · cases e
/-- greatest, least of two -/
def f2i (g : Int → Int → Int) : FA := fun s ds => match ds with
  | [.d (.int i), .d (.int j)] => some (.d (.int (g i j)), s)
  | _ => none
def mx2 (i j : Int) : Int := if j > i then j else i
def mn2 (i j : Int) : Int := if j < i then j else i
theorem f2i_ok {u : Value} {g : Int → Int → Int} (hq : CallR X u (fun xs H Q => ∃ i j, xs = [.int i, .int j] ∧ Q (.int (g i j)) H)) : CalS X u (f2i g) := fun s ds z s' e => by
  unfold f2i at e
  split at e
  · rename_i i j
    cases e
    refine ⟨_, hq, fun us w H Q G hv k => ?_⟩
    obtain ⟨u, v, rfl, h1, h2⟩ := vrs2 hv
    cases vr_int h1
    cases vr_int h2
    exact ⟨i, j, rfl, k _ w H (W.le.refl w) G vi⟩
  · cases e
def bMax2 : FA := f2i mx2
def bMin2 : FA := f2i mn2
theorem b_max2 (hk : X.calm = true) : CalS X (.builtin "max") bMax2 := f2i_ok (call_max2 hk)
theorem b_min2 (hk : X.calm = true) : CalS X (.builtin "min") bMin2 := f2i_ok (call_min2 hk)
/-- tuple(x), list(x) -/
def asSeq (s : Sto) (d : D) : Option (List D) := match d with
  | .d (.tuple xs) => some (xs.map .d)
  | d => asL s d
theorem asSeq_ok {B : Ba} {w : W} {s : Sto} {H : Hp} {v : V} {d : D} {ds : List D} (h : asSeq s d = some ds) (g : Ok B w s H) (hv : VR B w v d) : ∃ p vs, v = .ref p ∧ (SqL B.K H p vs ∨ SqT B.K H p vs) ∧ VRs B w vs ds := by
  unfold asSeq at h
  split at h
  · cases h
    obtain ⟨p, vs, rfl, h1, h2⟩ := dp_tup hv
    exact ⟨p, vs, rfl, .inr (g.ext.t h1), VRs.data.mpr h2⟩
  · obtain ⟨p, vs, e1, h1, h2⟩ := asL_ok h g hv
    exact ⟨p, vs, e1, .inl h1, h2⟩
def bTuple : FA := fun s ds => match ds with
  | [.d (.tuple xs)] => some (.d (.tuple xs), s)
  | [d] => match asL s d with
    | some ds => match data ds with
      | some xs => some (.d (.tuple xs), s)
      | none => none
    | none => none
  | _ => none
def bList (own : Bool) : FA := fun s ds => match ds with
  | [d] => match asSeq s d with
    | some ds => mkL own s ds
    | none => none
  | _ => none
theorem b_tuple : CalS X (.type "tuple") bTuple := fun s ds z s' e => by
  unfold bTuple at e
  split at e
  · rename_i xs
    cases e
    refine ⟨_, call_tuple_of, fun us w H Q G hv k => ?_⟩
    obtain ⟨v, rfl, hv1⟩ := vrs1 hv
    obtain ⟨p, vs, rfl, h1, h2⟩ := dp_tup hv1
    exact ⟨p, vs, rfl, .inr ⟨G.ext.t h1, k _ w H (W.le.refl w) G hv1⟩⟩
  · rename_i d _
    split at e
    · rename_i ds e1
      split at e
      · rename_i xs e2
        cases e
        refine ⟨_, call_tuple_of, fun us w H Q G hv k => ?_⟩
        obtain ⟨v, rfl, hv1⟩ := vrs1 hv
        obtain ⟨p, vs, rfl, h1, h2⟩ := asL_ok e1 G hv1
        rw [data_eq e2] at h2
        refine ⟨p, vs, rfl, .inl ⟨h1, fun l hl => ?_⟩⟩
        obtain ⟨w', l', g', v'⟩ := tup_ok G hl (VRs.data.mp h2)
        exact k _ w' _ l' g' v'
      · cases e
    · cases e
  · cases e
theorem b_list {own : Bool} : CalS X (.type "list") (bList own) := fun s ds z s' e => by
  unfold bList at e
  split at e
  · rename_i d
    split at e
    · rename_i ds e1
      refine ⟨_, call_list_of, fun us w H Q G hv k => ?_⟩
      obtain ⟨v, rfl, hv1⟩ := vrs1 hv
      obtain ⟨p, vs, rfl, h1, h2⟩ := asSeq_ok e1 G hv1
      refine ⟨p, vs, rfl, h1, fun l hl => ?_⟩
      obtain ⟨w', l', g', v'⟩ := mkL_ok e G hl h2
      exact k _ w' _ l' g' v'
    · cases e
  · cases e
/-- sorted(xs), xs a list of data of one shape -/
structure SrtOk (xs : List PyData) : Prop where
  al : PySem.W.AllAlike xs
  so : Z.SrtK xs
  dp : ∀ d ∈ xs, d.depth ≤ 60
open Classical in
noncomputable def bSorted (own : Bool) : FA := fun s ds => match ds with
  | [d] => match asL s d with
    | some ds => match data ds with
      | some xs => if SrtOk xs then mkL own s ((Z.srt xs).map .d) else none
      | none => none
    | none => none
  | _ => none
theorem b_sorted (hu : X.A.units + 64 < cLine) {own : Bool} : CalS X (.builtin "sorted") (bSorted own) := fun s ds z s' e => by
  unfold bSorted at e
  split at e
  · rename_i d
    split at e
    · rename_i ds e1
      split at e
      · rename_i xs e2
        split at e
        · rename_i hs
          refine ⟨_, Z.cr_srt, fun us w H Q G hv k => ?_⟩
          obtain ⟨v, rfl, hv1⟩ := vrs1 hv
          obtain ⟨p, vs, rfl, h1, h2⟩ := asL_ok e1 G hv1
          rw [data_eq e2] at h2
          refine ⟨p, w.F, vs, xs, rfl, h1, G.ext, VRs.data.mp h2, hs.al, hs.so, fun d hd => Z.roomS hu (hs.dp d hd), fun l ys hl hy => ?_⟩
          obtain ⟨w', l', g', v'⟩ := mkL_ok e G hl (VRs.data.mpr hy)
          exact k _ w' _ l' g' v'
        · cases e
      · cases e
    · cases e
  · cases e

/-! ### isinstance -/
inductive TyT where | tup | lst | bl | int | str
def TyT.of : TyT → PyData → Bool
  | .tup => Z.isTup | .lst => Z.isLst | .bl => Z.isBl | .int => Z.isInt | .str => Z.isStr
def TyT.nm : TyT → String
  | .tup => "tuple" | .lst => "list" | .bl => "bool" | .int => "int" | .str => "str"
theorem TyT.kit (t : TyT) (x : PyData) : kitB (Z.tyN x) t.nm = some (t.of x) := by
  cases t
  · exact Z.kit_tup x
  · exact Z.kit_lst x
  · exact Z.kit_bl x
  · exact Z.kit_int x
  · exact Z.kit_str x
def eIsi (t : TyT) (m : ME) : ME := fun e s => match m e s with
  | some (d, s1) => match pd s1 d with
    | some x => some (.d (.bool (t.of x)), s1)
    | none => none
  | none => none
theorem n_isi {T : Str} {q : Pos} (t : TyT) (ha : NE X a m) (hm : X.mg "isinstance" = none) (hmT : X.mg T = none) (hv : bootBuiltins T = some (.type t.nm) := by decide +kernel) (hg : Gl X T := by rfl) (hc : Cl X "isinstance" a [.Name T q] pos := by exact ⟨rfl, rfl, rfl⟩)
    (hs : starEach [Expr.Name T q] X.env = [(false, eval (.Name T q) X.env)] := by rfl) (hn : T ≠ "__name__" := by decide) (hd : (T == ("__debug__" : Str)) = false := by decide) :
    NE X (.Call (.Name "isinstance" p) [a, .Name T q] [] pos) (eIsi t m) := fun e s d s' h => by
  unfold eIsi at h
  split at h
  · rename_i d1 s1 e1
    split at h
    · rename_i x e2
      cases h
      refine PE.imp (pe_callB call_isi hc.1 hm (by decide +kernel) (pa_cons (ha _ _ _ _ e1) (pa_cons (pe_bltn hg hmT hv (v := .ty t.nm) rfl hn hd) pa_nil hs) hc.2.1) (by decide) (by decide) hc.2.1 hc.2.2) fun σ H Q ⟨w, g, l, q⟩ => ⟨w, g, l, fun v w1 H1 l1 g1 v1 => ?_⟩
      have d := pd_ok e2 g1 v1
      exact ⟨_, _, _, _, t.of x, rfl, .ty t.nm, Z.dp_ty d, kit_ty (t.kit x), q _ w1 H1 l1 g1 vb⟩
    · cases h
  · cases h

/-! ### items, slices -/
def gIx (s : Sto) (a : D) (i : Int) : Option D := match asSeq s a with
  | some ds => atI ds i
  | none => none
theorem vrs_atI {B : Ba} {w : W} {vs : List V} {ds : List D} {i : Int} {x : D} (h : VRs B w vs ds) (e : atI ds i = some x) : ∃ v, atI vs i = some v ∧ VR B w v x := by
  unfold atI at e ⊢
  rw [h.len]
  cases q : ixN ds.length i with
  | none => rw [q] at e; cases e
  | some j =>
    rw [q] at e
    exact h.get e
def eIx (ma mb : ME) : ME := eBin (fun s a b => match b with
  | .d (.int i) => match gIx s a i with
    | some d => some (d, s)
    | none => none
  | _ => none) ma mb
theorem n_ix (ha : NE X a ma) (hb : NE X b mb) (hs : PlainIx b := by intro _ _; rfl) : NE X (.Subscript a b pos) (eIx ma mb) := fun e s z s' h => by
  obtain ⟨x, s1, y, s2, e1, e2, e3⟩ := bin_cases h
  split at e3
  · rename_i i
    split at e3
    · rename_i d e4
      cases e3
      unfold gIx at e4
      split at e4
      · rename_i ds e5
        have run : ∀ {q : R2}, IxR X q → (∀ p vs v H Q, (SqL X.K H p vs ∨ SqT X.K H p vs) → atI vs i = some v → Q v H → q (.ref p) (.int i) H Q) → PE X (.Subscript a b pos) (tE (ba X) e s z s') := fun hq hr =>
          PE.imp (pe_ix hq (ha _ _ _ _ e1) (hb _ _ _ _ e2) hs) (bi_run fun u v w H Q g h1 h2 k => by
            cases vr_int h2
            obtain ⟨p, vs, rfl, h3, h4⟩ := asSeq_ok e5 g h1
            obtain ⟨v, h5, h6⟩ := vrs_atI h4 e4
            exact hr p vs v H Q h3 h5 (k v w H (W.le.refl w) g h6))
        exact run ix_seq fun p vs v H Q h1 h2 q => h1.elim (fun h => .inl ⟨p, vs, i, v, rfl, rfl, h, h2, q⟩) fun h => .inr (.inl ⟨p, vs, i, v, rfl, rfl, h, h2, q⟩)
      · cases e4
    · cases e3
  · cases e3
def oNone : MO := fun _ s => some (none, s)
def oSome (m : ME) : MO := fun e s => match m e s with
  | some (.d (.int i), s1) => some (some i, s1)
  | _ => none
theorem no_none : NO X none oNone := fun e s i s' h => by
  cases h
  exact Z.PO.imp po_none fun σ H Q ⟨w, g, l, q⟩ => q w H (W.le.refl w) g
theorem no_some (h : NE X ex m) : NO X (some ex) (oSome m) := fun e s i s' hm => by
  unfold oSome at hm
  split at hm
  · rename_i j s1 e1
    cases hm
    exact Z.PO.imp (po_some (h _ _ _ _ e1)) fun σ H Q ⟨w, g, l, q⟩ => ⟨w, g, l, fun v w1 H1 l1 g1 v1 => by
      cases vr_int v1
      exact ⟨j, rfl, q w1 H1 l1 g1⟩⟩
  · cases hm
def cutD {α : Type} (xs : List α) (lo hi : Option Int) : List α := (xs.drop (HT.sIx xs.length 0 lo)).take (HT.sIx xs.length xs.length hi - HT.sIx xs.length 0 lo)
theorem vrs_cut {B : Ba} {w : W} {vs : List V} {ds : List D} {lo hi : Option Int} (h : VRs B w vs ds) : VRs B w (cutV vs lo hi) (cutD ds lo hi) := by
  unfold cutV cutD
  rw [h.len]
  exact VRs.take _ (VRs.drop _ h)
theorem dps_cut {K : PySem.W.Frag} {F : Hp} {vs : List V} {ds : List PyData} {lo hi : Option Int} (h : DpAll K F vs ds) : DpAll K F (cutV vs lo hi) (cutD ds lo hi) := by
  unfold cutV cutD
  rw [dpsLen h]
  exact Z.dpsTake _ (Z.dpsDrop _ h)
def eSl (own : Bool) (ma : ME) (ml mu : MO) : ME := fun e s => match ma e s with
  | some (a, s1) => match ml e s1 with
    | some (l, s2) => match mu e s2 with
      | some (u, s3) => match a with
        | .d (.tuple xs) => some (.d (.tuple (cutD xs l u)), s3)
        | a => match asL s3 a with
          | some ds => mkL own s3 (cutD ds l u)
          | none => none
      | none => none
    | none => none
  | none => none
theorem n_sl {own : Bool} {lo hi : Option Expr} {ml mu : MO} {p2 : Pos} (ha : NE X a ma) (hl : NO X lo ml) (hu : NO X hi mu) : NE X (.Subscript a (.Slice lo hi none p2) pos) (eSl own ma ml mu) := fun e s z s' h => by
  unfold eSl at h
  split at h
  · rename_i a1 s1 e1
    split at h
    · rename_i l s2 e2
      split at h
      · rename_i u s3 e3
        split at h
        · rename_i xs
          cases h
          refine PE.imp (pe_slice sl_tupA (ha _ _ _ _ e1) (hl _ _ _ _ e2) (hu _ _ _ _ e3)) fun σ H Q ⟨w, g, L, k⟩ => ⟨w, g, L, fun v w1 H1 l1 g1 v1 => ⟨w1, g1, L.up l1, fun w2 H2 l2 g2 => ⟨w2, g2, (L.up l1).up l2, fun w3 H3 l3 g3 => ?_⟩⟩⟩
          have v3 := (v1.up l2).up l3
          obtain ⟨p, vs, rfl, h1, h2⟩ := dp_tup v3
          refine ⟨p, vs, rfl, g3.ext.t h1, fun ⟨z1, z2⟩ => ?_, fun _ q hq => ?_⟩
          · have e : cutD xs l u = xs := by
              unfold cutD
              rw [dpsLen h2] at z1 z2
              rw [z1, z2]
              simp
            exact k _ w3 _ ((l1.trans l2).trans l3) g3 (by rw [e]; exact v3)
          · obtain ⟨w4, l4, g4, v4⟩ := tup_ok g3 hq (dps_cut h2)
            exact k _ w4 _ (((l1.trans l2).trans l3).trans l4) g4 v4
        · split at h
          · rename_i ds e4
            refine PE.imp (pe_slice sl_list (ha _ _ _ _ e1) (hl _ _ _ _ e2) (hu _ _ _ _ e3)) fun σ H Q ⟨w, g, L, k⟩ => ⟨w, g, L, fun v w1 H1 l1 g1 v1 => ⟨w1, g1, L.up l1, fun w2 H2 l2 g2 => ⟨w2, g2, (L.up l1).up l2, fun w3 H3 l3 g3 => ?_⟩⟩⟩
            obtain ⟨p, vs, rfl, h1, h2⟩ := asL_ok e4 g3 ((v1.up l2).up l3)
            refine ⟨p, vs, rfl, h1, fun q hq => ?_⟩
            obtain ⟨w4, l4, g4, v4⟩ := mkL_ok h g3 hq (vrs_cut h2)
            exact k _ w4 _ (((l1.trans l2).trans l3).trans l4) g4 v4
          · cases h
      · cases h
    · cases h
  · cases h
/-- a[::-1] -/
def eRev (own : Bool) (m : ME) : ME := fun e s => match m e s with
  | some (.d (.tuple xs), s1) => some (.d (.tuple xs.reverse), s1)
  | some (d, s1) => match asL s1 d with
    | some ds => mkL own s1 ds.reverse
    | none => none
  | none => none
theorem n_rev {own : Bool} {k : Nat} {p1 p2 p3 : Pos} (ha : NE X a m) : NE X (.Subscript a (.Slice none none (some (.UnaryOp .USub (.Constant (.int 1) k p1) p2)) p3) pos) (eRev own m) := fun e s z s' h => by
  unfold eRev at h
  split at h
  · rename_i xs s1 e1
    cases h
    refine PE.imp (Z.pe_revT (ha _ _ _ _ e1)) fun σ H Q ⟨w, g, L, k⟩ => ⟨w, g, L, fun v w1 H1 l1 g1 v1 => ?_⟩
    obtain ⟨p, vs, rfl, h1, h2⟩ := dp_tup v1
    refine ⟨p, vs, rfl, g1.ext.t h1, fun q hq => ?_⟩
    obtain ⟨w4, l4, g4, v4⟩ := tup_ok g1 hq (Z.dpsRev h2)
    exact k _ w4 _ (l1.trans l4) g4 v4
  · rename_i d s1 _ e1
    split at h
    · rename_i ds e2
      refine PE.imp (pe_revL (ha _ _ _ _ e1)) fun σ H Q ⟨w, g, L, k⟩ => ⟨w, g, L, fun v w1 H1 l1 g1 v1 => ?_⟩
      obtain ⟨p, vs, rfl, h1, h2⟩ := asL_ok e2 g1 v1
      refine ⟨p, vs, rfl, h1, fun q hq => ?_⟩
      obtain ⟨w4, l4, g4, v4⟩ := mkL_ok h g1 hq h2.rev
      exact k _ w4 _ (l1.trans l4) g4 v4
    · cases h
  · cases h
end
end N

namespace N
open PySem L2 PyProof.Rows
open Z (Ext dpUp dpsUp dpsLen dpsGet DxO KyD DEn Cl cut offv)

/-! ### statements -/
inductive Fl where | nx | rt (d : D) | bk | ct
abbrev MS := Lo → Sto → Option (Fl × Lo × Sto)
def tK (B : Ba) (b : Nat) (w : W) (fl : Fl) (e' : Lo) (s' : Sto) (Dn : Ends) : Prop := match fl with
  | .nx => ∀ w' σ' H', (w.take b).le w' → Ok B w' s' H' → Sl B w' e' σ' → Dn.nx σ' H'
  | .rt d => ∀ w' v H', (w.take b).le w' → Ok B w' s' H' → VR B w' v d → Dn.rt v H'
  | .bk => ∀ w' σ' H', (w.take b).le w' → Ok B w' s' H' → Sl B w' e' σ' → Dn.bk σ' H'
  | .ct => ∀ w' σ' H', (w.take b).le w' → Ok B w' s' H' → Sl B w' e' σ' → Dn.ct σ' H'
def tS (B : Ba) (b : Nat) (e : Lo) (s : Sto) (fl : Fl) (e' : Lo) (s' : Sto) : TS := fun Dn σ H => ∃ w, Ok B w s H ∧ Sl B w e σ ∧ tK B b w fl e' s' Dn
def NS (X : Cx) (st : Stmt) (m : MS) : Prop := ∀ e s fl e' s' b, m e s = some (fl, e', s') → b ≤ s.length → PS X st (tS (ba X) b e s fl e' s')
def NSs (X : Cx) (st : List Stmt) (m : MS) : Prop := ∀ e s fl e' s' b, m e s = some (fl, e', s') → b ≤ s.length → PSs X st (tS (ba X) b e s fl e' s')
section
variable {X : Cx} {ex a b c tg : Expr} {es : List Expr} {st : Stmt} {rest body orelse : List Stmt} {m ma mb mc : ME} {ms : MA} {mt mu : MT} {pos p : Pos} {M M1 M2 : MS}
theorem NSs.fam (h : NSs X rest M) : PSs X rest (fun Dn σ H => ∃ e s fl e' s' b, M e s = some (fl, e', s') ∧ b ≤ s.length ∧ tS (ba X) b e s fl e' s' Dn σ H) :=
  ⟨fun pins sh σ H Dn I ⟨e, s, fl, e', s', b, hm, hb, q⟩ => (h e s fl e' s' b hm hb).run pins sh σ H Dn I q⟩
theorem W.le.cut {w w' : W} (h : w.le w') (b : Nat) : (w.take b).le w' := (W.take_le w b).trans h
theorem W.cut_eq {w w' : W} {b : Nat} (h : (w.take b).le w') (hb : b ≤ w.ρ.length) : b ≤ w'.ρ.length ∧ w'.ρ.take b = w.ρ.take b := by
  obtain ⟨m, hm⟩ := h.ρ
  have hm : w.ρ.take b ++ m = w'.ρ := hm
  have l : (w.ρ.take b).length = b := by rw [List.length_take]; omega
  constructor
  · rw [← hm, List.length_append, l]; omega
  · rw [← hm, List.take_append_of_le_length (by omega), List.take_of_length_le (by omega)]
theorem W.cut_trans {w w1 w2 : W} {b : Nat} (h : (w.take b).le w1) (hb : b ≤ w.ρ.length) (h2 : (w1.take b).le w2) : (w.take b).le w2 := by
  obtain ⟨_, e⟩ := W.cut_eq h hb
  refine ⟨h.F.trans h2.F, ?_⟩
  have k := h2.ρ
  rw [show (w1.take b).ρ = w1.ρ.take b from rfl, e] at k
  exact k
theorem tK.mono {B : Ba} {b : Nat} {w w' : W} {fl : Fl} {e : Lo} {s : Sto} {Dn : Ends} (h : tK B b w fl e s Dn) (l : (w.take b).le w') (hb : b ≤ w.ρ.length) : tK B b w' fl e s Dn := by
  cases fl with
  | nx => exact fun w2 σ H l2 => h w2 σ H (W.cut_trans l hb l2)
  | rt d => exact fun w2 v H l2 => h w2 v H (W.cut_trans l hb l2)
  | bk => exact fun w2 σ H l2 => h w2 σ H (W.cut_trans l hb l2)
  | ct => exact fun w2 σ H l2 => h w2 σ H (W.cut_trans l hb l2)
theorem pss_no : PSs X rest (fun _ _ _ => False) := ⟨fun _ _ _ _ _ _ h => h.elim⟩
def sNil : MS := fun e s => some (.nx, e, s)
def sSeq (a b : MS) : MS := fun e s => match a e s with
  | some (.nx, e1, s1) => b e1 s1
  | r => r
theorem ns_nil : NSs X [] sNil := fun e s fl e' s' b h hb => by
  cases h
  exact Z.PSs.imp pss_nil fun Dn σ H ⟨w, g, l, k⟩ => k w σ H ((W.le.refl w).cut b) g l
theorem ns_seq (h1 : NS X st M1) (h2 : NSs X rest M2) : NSs X (st :: rest) (sSeq M1 M2) := fun e s fl e' s' b h hb => by
  unfold sSeq at h
  split at h
  · rename_i e1 s1 e0
    refine Z.PSs.imp (pss_cons (h1 _ _ _ _ _ b e0 hb) h2.fam) fun Dn σ H ⟨w, g, l, k⟩ => ?_
    have hw : b ≤ w.ρ.length := by rw [g.lr]; exact hb
    refine ⟨w, g, l, fun w1 σ1 H1 l1 g1 sl1 => ?_⟩
    exact ⟨e1, s1, fl, e', s', b, h, by rw [← g1.lr]; exact (W.cut_eq l1 hw).1, w1, g1, sl1, k.mono l1 hw⟩
  · rename_i r hr
    refine Z.PSs.imp (pss_cons (h1 _ _ _ _ _ b h hb) pss_no) fun Dn σ H ⟨w, g, l, k⟩ => ⟨w, g, l, ?_⟩
    cases fl with
    | nx => exact absurd h (hr _ _)
    | rt d => exact k
    | bk => exact k
    | ct => exact k
def sSet (i : Nat) (m : ME) : MS := fun e s => match m e s with
  | some (d, s1) => some (.nx, e.set i (some d), s1)
  | none => none
theorem ns_set {x : Str} {p' : Pos} (i : Nat) (h : NE X ex m) (hN : X.N.Nodup) (hx : X.N[i]? = some x := by rfl) (hl : Loc X.env.scope x := by first | exact .inl rfl | exact .inr rfl) (hs : swapsWith ex (some (.Name x p')) pos.line X.env = pure false := by rfl)
    (hf : X.fn x = true ∨ X.env.scope.names.lookup x = some .local := by first | exact .inl rfl | exact .inr rfl) : NS X (.Assign [.Name x p'] ex pos) (sSet i m) := fun e s fl e' s' b hm hb => by
  unfold sSet at hm
  split at hm
  · rename_i d s1 e1
    cases hm
    exact Z.PS.imp (ps_set hN hx hl (h _ _ _ _ e1) hs hf) fun Dn σ H ⟨w, g, l, k⟩ => ⟨w, g, l, fun v w1 H1 l1 g1 v1 => k w1 _ H1 (l1.cut b) g1 ((l.up l1).put i v1)⟩
  · cases hm
def sRet (m : ME) : MS := fun e s => match m e s with
  | some (d, s1) => some (.rt d, e, s1)
  | none => none
theorem ns_ret (h : NE X ex m) : NS X (.Return (some ex) pos) (sRet m) := fun e s fl e' s' b hm hb => by
  unfold sRet at hm
  split at hm
  · rename_i d s1 e1
    cases hm
    exact Z.PS.imp (ps_ret (h _ _ _ _ e1)) fun Dn σ H ⟨w, g, l, k⟩ => ⟨w, g, l, fun v w1 H1 l1 g1 v1 => k w1 v H1 (l1.cut b) g1 v1⟩
  · cases hm
def sExpr (m : ME) : MS := fun e s => match m e s with
  | some (_, s1) => some (.nx, e, s1)
  | none => none
theorem ns_expr (h : NE X ex m) (hs : swapsWith ex none pos.line X.env = pure false := by rfl) : NS X (.Expr ex pos) (sExpr m) := fun e s fl e' s' b hm hb => by
  unfold sExpr at hm
  split at hm
  · rename_i d s1 e1
    cases hm
    exact Z.PS.imp (ps_expr (h _ _ _ _ e1) hs) fun Dn σ H ⟨w, g, l, k⟩ => ⟨w, g, l, fun v w1 H1 l1 g1 v1 => k w1 σ H1 (l1.cut b) g1 (l.up l1)⟩
  · cases hm
def sPass : MS := fun e s => some (.nx, e, s)
def sCt : MS := fun e s => some (.ct, e, s)
def sBk : MS := fun e s => some (.bk, e, s)
theorem ns_pass : NS X (.Pass pos) sPass := fun e s fl e' s' b h hb => by
  cases h
  exact Z.PS.imp ps_pass fun Dn σ H ⟨w, g, l, k⟩ => k w σ H ((W.le.refl w).cut b) g l
theorem ns_ct : NS X (.Continue pos) sCt := fun e s fl e' s' b h hb => by
  cases h
  exact Z.PS.imp ps_continue fun Dn σ H ⟨w, g, l, k⟩ => k w σ H ((W.le.refl w).cut b) g l
theorem ns_bk : NS X (.Break pos) sBk := fun e s fl e' s' b h hb => by
  cases h
  exact Z.PS.imp ps_break fun Dn σ H ⟨w, g, l, k⟩ => k w σ H ((W.le.refl w).cut b) g l
def sIf (mt : MT) (M1 M2 : MS) : MS := fun e s => match mt e s with
  | some (true, s1) => M1 e s1
  | some (false, s1) => M2 e s1
  | none => none
theorem le_len {B : Ba} {w w' : W} {s s' : Sto} {H H' : Hp} (l : w.le w') (g : Ok B w s H) (g' : Ok B w' s' H') : s.length ≤ s'.length := by
  rw [← g.lr, ← g'.lr]
  exact l.ρ.length_le
theorem ns_if (hc : NT X c mt) (h1 : NSs X body M1) (h2 : NSs X orelse M2) : NS X (.If c body orelse pos) (sIf mt M1 M2) := fun e s fl e' s' b hm hb => by
  have go : ∀ k s1, mt e s = some (k, s1) → (if k then M1 else M2) e s1 = some (fl, e', s') → PS X (.If c body orelse pos) (tS (ba X) b e s fl e' s') := fun k s1 e1 e2 => by
    refine Z.PS.imp (ps_if (hc _ _ _ _ e1) h1.fam h2.fam) fun Dn σ H ⟨w, g, l, q⟩ => ⟨w, g, l, fun w1 H1 l1 g1 => ?_⟩
    have hb1 : b ≤ s1.length := Nat.le_trans hb (le_len l1 g g1)
    have q1 := q.mono (l1.cut b) (by rw [g.lr]; exact hb)
    cases k with
    | true => exact ⟨e, s1, fl, e', s', b, e2, hb1, w1, g1, l.up l1, q1⟩
    | false => exact ⟨e, s1, fl, e', s', b, e2, hb1, w1, g1, l.up l1, q1⟩
  unfold sIf at hm
  split at hm
  · rename_i s1 e1
    exact go true s1 e1 hm
  · rename_i s1 e1
    exact go false s1 e1 hm
  · cases hm

/-! ### targets -/
abbrev MG := D → Lo → Option Lo
abbrev MGs := List PyData → Lo → Option Lo
def tG (B : Ba) (vs : List Nat) (s : Sto) (d : D) (e e' : Lo) : TG := fun v σ H Q => ∃ w, Ok B w s H ∧ Sl B w e σ ∧ VR B w v d ∧ ∀ σ', offv vs σ σ' → Sl B w e' σ' → Q σ' H
def tGs (B : Ba) (vs : List Nat) (s : Sto) (xs : List PyData) (e e' : Lo) : TGs := fun us σ H Q => ∃ w, Ok B w s H ∧ Sl B w e σ ∧ DpAll B.K w.F us xs ∧ ∀ σ', offv vs σ σ' → Sl B w e' σ' → Q σ' H
def NG (X : Cx) (tg : Expr) (vs : List Nat) (g : MG) : Prop := ∀ s d e e', g d e = some e' → PG X tg (tG (ba X) vs s d e e')
def NGs (X : Cx) (tgs : List Expr) (vs : List Nat) (g : MGs) : Prop := ∀ s d e e', g d e = some e' → PGs X tgs (tGs (ba X) vs s d e e')
theorem NG.fam {vs : List Nat} {g : MG} (h : NG X tg vs g) : PG X tg (fun v σ H Q => ∃ s d e e', g d e = some e' ∧ tG (ba X) vs s d e e' v σ H Q) :=
  ⟨fun pins sh σ H v u Q I r ⟨s, d, e, e', m, q⟩ => (h s d e e' m).run pins sh σ H v u Q I r q⟩
def gName (k : Nat) : MG := fun d e => some (e.set k (some d))
def gTup (gs : MGs) : MG := fun d e => match d with
  | .d (.tuple xs) => gs xs e
  | _ => none
def gsNil : MGs := fun xs e => match xs with
  | [] => some e
  | _ => none
def gsCons (g : MG) (gs : MGs) : MGs := fun xs e => match xs with
  | x :: xs => match g (.d x) e with
    | some e1 => gs xs e1
    | none => none
  | [] => none
theorem ng_name {y : Str} {vs : List Nat} (k : Nat) (hN : X.N.Nodup) (hv : k ∈ vs := by simp) (hi : X.N[k]? = some y := by rfl) (hx : Loc X.env.scope y := by first | exact .inl rfl | exact .inr rfl)
    (hf : X.fn y = true ∨ X.env.scope.names.lookup y = some .local := by first | exact .inl rfl | exact .inr rfl) : NG X (.Name y pos) vs (gName k) := fun s d e e' h => by
  cases h
  exact Z.PG.imp (pg_name hN hi hx hf) fun v σ H Q ⟨w, g, l, hv1, q⟩ => q _ (Z.offv_set hv) (l.put k hv1)
theorem ngs_nil {vs : List Nat} : NGs X [] vs gsNil := fun s d e e' h => by
  unfold gsNil at h
  split at h
  · cases h
    exact Z.PGs.imp pgs_nil fun us σ H Q ⟨w, g, l, hv1, q⟩ => by
      cases hv1
      exact ⟨rfl, q σ ⟨rfl, fun _ _ => rfl⟩ l⟩
  · cases h
theorem ngs_cons {vs : List Nat} {t : Expr} {ts : List Expr} {g : MG} {gs : MGs} (h1 : NG X t vs g) (h2 : NGs X ts vs gs) (hs : (assignEach (t :: ts) X.env).map (·.2) = assign t X.env :: (assignEach ts X.env).map (·.2) := by rfl) : NGs X (t :: ts) vs (gsCons g gs) := fun s d e e' h => by
  unfold gsCons at h
  split at h
  · rename_i x xs
    split at h
    · rename_i e1 h0
      refine Z.PGs.imp (pgs_cons (h1 s _ _ _ h0) (h2 s _ _ _ h) hs) fun us σ H Q ⟨w, g, l, hv1, q⟩ => ?_
      cases hv1 with
      | cons v1 v2 => exact ⟨_, _, rfl, w, g, l, v1, fun σ1 o1 l1 => ⟨w, g, l1, v2, fun σ2 o2 l2 => q σ2 (o1.trans o2) l2⟩⟩
    · cases h
  · cases h
theorem gsLen {vs : List Nat} : True := trivial
/-- as many parts as names -/
def gsLenOk (n : Nat) (gs : MGs) : MGs := fun xs e => if xs.length = n then gs xs e else none
theorem ng_tup {vs : List Nat} {ts : List Expr} {k n : Nat} {gs : MGs} (h : NGs X ts vs gs) (hc : X.calm = true := by rfl) (hn : (assignEach ts X.env).length = n := by rfl) (hst : (assignEach ts X.env).findIdx? (·.1) = none := by rfl) : NG X (.Tuple ts k pos) vs (gTup (gsLenOk n gs)) := fun s d e e' hm => by
  unfold gTup at hm
  split at hm
  · rename_i xs
    unfold gsLenOk at hm
    split at hm
    · rename_i hl
      refine Z.PG.imp (pg_tup hc (h s _ _ _ hm) (hn.trans hl.symm) hst) fun v σ H Q ⟨w, g, l, hv1, q⟩ => ?_
      obtain ⟨c, us, rfl, h1, h2⟩ := dp_tup hv1
      exact ⟨c, us, rfl, g.ext.t h1, dpsLen h2, w, g, l, h2, q⟩
    · cases hm
  · cases hm
def sAsg (g : MG) (m : ME) : MS := fun e s => match m e s with
  | some (d, s1) => match g d e with
    | some e1 => some (.nx, e1, s1)
    | none => none
  | none => none
theorem ns_asg {vs : List Nat} {g : MG} (he : NE X ex m) (hg : NG X tg vs g) (hs : swapsWithSole [tg] ex pos.line X.env = pure false := by rfl) (hw : swappedStores [tg] ex X.env = pure none := by rfl) (h1 : (assignEach [tg] X.env).map (·.2) = [assign tg X.env] := by rfl) :
    NS X (.Assign [tg] ex pos) (sAsg g m) := fun e s fl e' s' b hm hb => by
  unfold sAsg at hm
  split at hm
  · rename_i d s1 e1
    split at hm
    · rename_i e2 h2
      cases hm
      exact Z.PS.imp (ps_asg (he _ _ _ _ e1) (hg s' _ _ _ h2) hs hw h1) fun Dn σ H ⟨w, g, l, k⟩ => ⟨w, g, l, fun v w1 H1 l1 g1 v1 => ⟨w1, g1, l.up l1, v1, fun σ' o l' => k w1 σ' H1 (l1.cut b) g1 l'⟩⟩
    · cases hm
  · cases hm
/-- x, y = a, b -/
def sPar (is : List Nat) (ms : MA) : MS := fun e s => match ms e s with
  | some (ds, s1) => if ds.length = is.length then some (.nx, (is.zip ds).foldl (fun e z => e.set z.1 (some z.2)) e, s1) else none
  | none => none
theorem ns_par2 {x y : Str} {px py pt pt2 : Pos} {kt k2 : Nat} (i j : Nat) (ha : NA X [a, b] ms) (hN : X.N.Nodup) (hij : i ≠ j := by decide) (hc : X.calm = true := by rfl) (hx : X.N[i]? = some x := by rfl) (hy : X.N[j]? = some y := by rfl)
    (hlx : X.env.scope.names.lookup x = some .local := by rfl) (hly : X.env.scope.names.lookup y = some .local := by rfl)
    (hw : swappedStores [.Tuple [.Name x px, .Name y py] kt pt] (.Tuple [a, b] k2 pt2) X.env = pure (some [x, y]) := by rfl) (hs : swapsWithSole [.Tuple [.Name x px, .Name y py] kt pt] (.Tuple [a, b] k2 pt2) pos.line X.env = pure false := by rfl) :
    NS X (.Assign [.Tuple [.Name x px, .Name y py] kt pt] (.Tuple [a, b] k2 pt2) pos) (sPar [i, j] ms) := fun e s fl e' s' bb hm hb => by
  unfold sPar at hm
  split at hm
  · rename_i ds s1 e1
    split at hm
    · rename_i hl
      cases hm
      match ds, hl with
      | [d1, d2], _ =>
        refine Z.PS.imp (ps_par hc hN hx hy hij hlx hly (ha _ _ _ _ e1) hw hs) fun Dn σ H ⟨w, g, l, k⟩ => ⟨w, g, l, fun us w1 H1 l1 g1 v1 => ?_⟩
        obtain ⟨u, v, rfl, h1, h2⟩ := vrs2 v1
        exact ⟨u, v, rfl, k w1 _ H1 (l1.cut bb) g1 (((l.up l1).put i h1).put j h2)⟩
    · cases hm
  · cases hm
theorem vrs3 {B : Ba} {w : W} {us : List V} {d d' d2 : D} (h : VRs B w us [d, d', d2]) : ∃ u v z, us = [u, v, z] ∧ VR B w u d ∧ VR B w v d' ∧ VR B w z d2 := by
  match us, h with
  | [u, v, z], ⟨h1, h2, h3, _⟩ => exact ⟨u, v, z, rfl, h1, h2, h3⟩
theorem ns_par3 {x y z : Str} {px py pz pt pt2 : Pos} {kt k2 : Nat} (i j k : Nat) (ha : NA X [a, b, c] ms) (hN : X.N.Nodup) (hij : i ≠ j := by decide) (hik : i ≠ k := by decide) (hjk : j ≠ k := by decide) (hc : X.calm = true := by rfl) (hx : X.N[i]? = some x := by rfl) (hy : X.N[j]? = some y := by rfl) (hz : X.N[k]? = some z := by rfl)
    (hlx : X.env.scope.names.lookup x = some .local := by rfl) (hly : X.env.scope.names.lookup y = some .local := by rfl) (hlz : X.env.scope.names.lookup z = some .local := by rfl)
    (hw : swappedStores [.Tuple [.Name x px, .Name y py, .Name z pz] kt pt] (.Tuple [a, b, c] k2 pt2) X.env = pure (some [x, y, z]) := by rfl) (hs : swapsWithSole [.Tuple [.Name x px, .Name y py, .Name z pz] kt pt] (.Tuple [a, b, c] k2 pt2) pos.line X.env = pure false := by rfl) :
    NS X (.Assign [.Tuple [.Name x px, .Name y py, .Name z pz] kt pt] (.Tuple [a, b, c] k2 pt2) pos) (sPar [i, j, k] ms) := fun e s fl e' s' bb hm hb => by
  unfold sPar at hm
  split at hm
  · rename_i ds s1 e1
    split at hm
    · rename_i hl
      cases hm
      match ds, hl with
      | [d1, d2, d3], _ =>
        refine Z.PS.imp (ps_par3 hc hN hx hy hz hij hik hjk hlx hly hlz (ha _ _ _ _ e1) hw hs) fun Dn σ H ⟨w, g, l, q⟩ => ⟨w, g, l, fun us w1 H1 l1 g1 v1 => ?_⟩
        obtain ⟨u, v, z, rfl, h1, h2, h3⟩ := vrs3 v1
        exact ⟨u, v, z, rfl, q w1 _ H1 (l1.cut bb) g1 ((((l.up l1).put i h1).put j h2).put k h3)⟩
    · cases hm
  · cases hm

/-! ### stores into objects -/
/-- an object of the store changes: what PSet, methods do -/
def putL (s : Sto) (o : D) (i : Int) (d : D) : Option Sto := match o with
  | .r j => match s[j]? with
    | some (.lst ds) => match ixN ds.length i with
      | some k => some (s.set j (.lst (ds.set k d)))
      | none => none
    | _ => none
  | _ => none
theorem chg_lst {B : Ba} {w : W} {s : Sto} {H : Hp} {v : V} {j : Nat} {ds : List D} (g : Ok B w s H) (hv : VR B w v (.r j)) (hs : s[j]? = some (.lst ds)) :
    ∃ a vs, v = .ref a ∧ H a = some (.lst vs) ∧ VRs B w vs ds ∧ ∀ ds' vs', VRs B w vs' ds' → Ok B w (s.set j (.lst ds')) (upd H a (.lst vs')) := by
  obtain ⟨a, h1, rfl⟩ := hv
  obtain ⟨hF, vs, h2, h3⟩ := g.ce _ _ a hs h1
  exact ⟨a, vs, rfl, h2, h3, fun ds' vs' h => g.chg h1 hF ⟨hF, vs', upd_same, h⟩⟩
def sPut (ma mi mv : ME) : MS := fun e s => match mv e s with
  | some (d, s1) => match ma e s1 with
    | some (o, s2) => match mi e s2 with
      | some (.d (.int i), s3) => match putL s3 o i d with
        | some s4 => some (.nx, e, s4)
        | none => none
      | _ => none
    | none => none
  | none => none
theorem ns_put {tpos : Pos} {mi mv : ME} (hv : NE X ex mv) (ha : NE X a ma) (hi : NE X b mi)
    (hsub : ∀ v, assign (.Subscript a b tpos) X.env v = (do
      let ov ← holding [v] (eval a X.env)
      let iv ← holding [v, ov] (eval b X.env)
      standAt tpos
      holding [v, ov, iv] (setItem ov iv v)
      release [v, ov, iv] []) := by intro _; rfl)
    (hs : swapsWithSole [.Subscript a b tpos] ex pos.line X.env = pure false := by rfl) (hw : swappedStores [.Subscript a b tpos] ex X.env = pure none := by rfl) (h1 : (assignEach [.Subscript a b tpos] X.env).map (·.2) = [assign (.Subscript a b tpos) X.env] := by rfl) :
    NS X (.Assign [.Subscript a b tpos] ex pos) (sPut ma mi mv) := fun e s fl e' s' bb hm hb => by
  unfold sPut at hm
  split at hm
  · rename_i d s1 e1
    split at hm
    · rename_i o s2 e2
      split at hm
      · rename_i i s3 e3
        split at hm
        · rename_i s4 e4
          cases hm
          refine Z.PS.imp (ps_asg (hv _ _ _ _ e1) (pg_sub (ha _ _ _ _ e2) (hi _ _ _ _ e3) set_list hsub) hs hw h1) fun Dn σ H ⟨w, g, l, k⟩ => ⟨w, g, l, fun v w1 H1 l1 g1 v1 => ⟨w1, g1, l.up l1, fun u w2 H2 l2 g2 v2 => ⟨w2, g2, (l.up l1).up l2, fun z w3 H3 l3 g3 v3 => ?_⟩⟩⟩
          cases vr_int v3
          unfold putL at e4
          split at e4
          · rename_i j
            split at e4
            · rename_i ds e5
              split at e4
              · rename_i kk e6
                cases e4
                obtain ⟨a, vs, rfl, h4, h5, h6⟩ := chg_lst g3 (v2.up l3) e5
                refine ⟨a, vs, i, kk, rfl, rfl, h4, by rw [h5.len]; exact e6, ?_⟩
                exact k w3 σ _ (((l1.trans l2).trans l3).cut bb) (h6 _ _ (h5.set ((v1.up l2).up l3) kk)) (((l.up l1).up l2).up l3)
              · cases e4
            · cases e4
          · cases e4
        · cases hm
      · cases hm
    · cases hm
  · cases hm
/-- x op= e, for a name -/
def IOpS (X : Cx) (op : Operator) (f : FB) : Prop := ∀ s a b z s', f s a b = some (z, s') → ∃ q, OpR X (inplaceOp op) q ∧ BiN (ba X) q s a b z s'
def sAug (i : Nat) (f : FB) (m : ME) : MS := fun e s => match e[i]? with
  | some (some u) => match m e s with
    | some (d, s1) => match f s1 u d with
      | some (z, s2) => some (.nx, e.set i (some z), s2)
      | none => none
    | none => none
  | _ => none
theorem ns_aug {op : Operator} {f : FB} {x : Str} {p' : Pos} (ho : IOpS X op f) (i : Nat) (h : NE X ex m) (hN : X.N.Nodup) (hx : X.N[i]? = some x := by rfl) (hl : Loc X.env.scope x := by first | exact .inl rfl | exact .inr rfl)
    (hf : X.fn x = true ∨ X.env.scope.names.lookup x = some .local := by first | exact .inl rfl | exact .inr rfl) : NS X (.AugAssign (.Name x p') op ex pos) (sAug i f m) := fun e s fl e' s' b hm hb => by
  unfold sAug at hm
  split at hm
  · rename_i u e0
    split at hm
    · rename_i d s1 e1
      split at hm
      · rename_i z s2 e2
        cases hm
        obtain ⟨q, hq, hB⟩ := ho _ _ _ _ _ e2
        refine Z.PS.imp (ps_aug hN hx hl (h _ _ _ _ e1) hq hf) fun Dn σ H ⟨w, g, l, k⟩ => ?_
        obtain ⟨v0, h0, hv0⟩ := l.sl i u e0
        refine ⟨v0, h0, w, g, l, fun v w1 H1 l1 g1 v1 => ?_⟩
        exact hB v0 v w1 H1 _ g1 (hv0.up l1) v1 fun x w2 H2 l2 g2 v2 => k w2 _ H2 ((l1.trans l2).cut b) g2 (((l.up l1).up l2).put i v2)
      · cases hm
    · cases hm
  · cases hm
theorem iop0 {op : Operator} {f : Int → Int → Int} (h : OpR X (inplaceOp op) (rI0 fun i j => .int (f i j))) : IOpS X op (i2 fun i j => some (f i j)) := fun s a b z s' e => by
  obtain ⟨i, j, k, rfl, rfl, e1, rfl, rfl⟩ := i2_cases e
  cases e1
  exact ⟨_, h, BiN.int (show Z.flat (.int _) (.int _) from rfl)⟩
theorem iopC {op : Operator} {f : Int → Int → Int} {C : Int → Int → Prop} {c : Int → Int → Prop} [∀ i j, Decidable (c i j)] (h : OpR X (inplaceOp op) (rI C fun i j => .int (f i j))) (hc : ∀ i j, c i j → C i j) : IOpS X op (i2 fun i j => if c i j then some (f i j) else none) := fun s a b z s' e => by
  obtain ⟨i, j, k, rfl, rfl, e1, rfl, rfl⟩ := i2_cases e
  split at e1
  · cases e1
    exact ⟨_, h, BiN.intC (hc i j ‹_›) (show Z.flat (.int _) (.int _) from rfl)⟩
  · cases e1
theorem io_sub : IOpS X .Sub oSub := iop0 iop_sub
theorem io_xor : IOpS X .BitXor oXor := iop0 iop_xor
theorem io_or : IOpS X .BitOr oOr := iop0 iop_or
theorem io_and : IOpS X .BitAnd oAnd := iop0 iop_and
def oDivS : FB := i2 fun i j => if 0 < j ∧ j < 1073741824 then some (i / j) else none
def oMulS : FB := i2 fun i j => if (-(2 ^ 64) < i ∧ i < 2 ^ 64) ∨ (-(2 ^ 64) < j ∧ j < 2 ^ 64) then some (i * j) else none
theorem io_mod : IOpS X .Mod oMod := iopC iop_mod fun i j h => h
theorem io_div : IOpS X .FloorDiv oDivS := iopC iop_fdiv fun i j h => h
theorem io_mul : IOpS X .Mult oMulS := iopC iop_mul fun i j h => h
/-- += : a number, a text; a list grows -/
def oIadd : FB := fun s a b => match a, b with
  | .d (.int i), .d (.int j) => some (.d (.int (i + j)), s)
  | .d (.str x), .d (.str y) => if x.length + y.length ≤ lim then some (.d (.str (x ++ y)), s) else none
  | .r j, b => match s[j]? with
    | some (.lst ds) => match asL s b with
      | some es => if ds.length + es.length ≤ lim then some (.r j, s.set j (.lst (ds ++ es))) else none
      | none => none
    | _ => none
  | _, _ => none
theorem io_add : IOpS X .Add oIadd := fun s a b z s' e => by
  unfold oIadd at e
  split at e
  · cases e
    exact ⟨_, iop_add, BiN.int (show Z.flat (.int _) (.int _) from rfl)⟩
  · rename_i x y
    split at e
    · rename_i hl
      cases e
      refine ⟨_, iop_add_str, fun u v w H Q g h1 h2 k => ?_⟩
      cases vr_str h1
      cases vr_str h2
      exact ⟨x, y, rfl, rfl, Nat.le_trans hl (Nat.le_of_lt lim_lt), k _ w H (W.le.refl w) g vs'⟩
    · cases e
  · rename_i j b'
    split at e
    · rename_i ds e1
      split at e
      · rename_i es e2
        split at e
        · rename_i hl
          cases e
          refine ⟨_, Z.ip_extQ, fun u v w H Q g h1 h2 k => ?_⟩
          obtain ⟨p2, zs, rfl, q2, r2⟩ := asL_ok e2 g h2
          have h1' := h1
          obtain ⟨a, vs, rfl, h4, h5, h6⟩ := chg_lst g h1 e1
          exact ⟨a, p2, vs, zs, rfl, rfl, h4, q2, by rw [h5.len, r2.len]; exact Nat.le_trans hl (Nat.le_of_lt lim_lt), k _ w _ (W.le.refl w) (h6 _ _ (h5.app r2)) h1'⟩
        · cases e
      · cases e
    · cases e
  · cases e
end
end N

namespace N
open PySem L2 PyProof.Rows
open Z (Ext dpUp dpsUp dpsLen dpsGet DxO KyD DEn Cl cut offv wipeE)

/-! ### the store cut back behind a turn, a call -/
structure Safe (s s' : Sto) : Prop where
  le : s.length ≤ s'.length
  ce : ∀ (j : Nat) (c : Cell), j < s.length → s'[j]? = some c → s[j]? = some c ∨ c.below s.length
open Classical in
noncomputable def trim (s s' : Sto) : Sto := if Safe s s' then s'.take s.length else s'
/-- .. where slots refer to what is below -/
def LoBelow (n : Nat) (e : Lo) : Prop := ∀ (i j : Nat), e[i]? = some (some (D.r j)) → j < n
open Classical in
noncomputable def trimE (s : Sto) (e : Lo) (s' : Sto) : Sto := if LoBelow s.length e then trim s s' else s'
def wipeN (e : Lo) : List Nat → Lo
  | [] => e
  | v :: vs => (wipeN e vs).set v none
theorem wipeN_len (e : Lo) : ∀ vs : List Nat, (wipeN e vs).length = e.length
  | [] => rfl
  | v :: vs => by unfold wipeN; rw [List.length_set, wipeN_len e vs]
theorem wipeN_get {e : Lo} {i : Nat} {d : D} : ∀ {vs : List Nat}, (wipeN e vs)[i]? = some (some d) → e[i]? = some (some d) ∧ i ∉ vs
  | [], h => ⟨h, by simp⟩
  | v :: vs, h => by
    unfold wipeN at h
    by_cases hi : i = v
    · subst hi
      by_cases hv : i < (wipeN e vs).length
      · rw [List.getElem?_set_self hv] at h
        cases h
      · rw [List.getElem?_eq_none (by simpa using hv)] at h
        cases h
    · rw [List.getElem?_set_ne (Ne.symm hi)] at h
      obtain ⟨z1, z2⟩ := wipeN_get h
      exact ⟨z1, by simp only [List.mem_cons, not_or]; exact ⟨hi, z2⟩⟩
section
variable {B : Ba} {w w' : W} {s s' : Sto} {H H' : Hp} {e : Lo} {σ : L2.St}
theorem Safe.ok (h : Safe s s') (g : Ok B w s H) (g' : Ok B w' s' H') : Ok B (w'.take s.length) (s'.take s.length) H' :=
  g'.cut fun j c hj hc => (h.ce j c hj hc).elim (fun h2 => by
    have hj2 : j < w.ρ.length := by rw [g.lr]; exact hj
    have := (g.ce j c _ h2 (List.getElem?_eq_getElem hj2)).isBelow
    rwa [g.lr] at this) id
theorem trim_cases (g : Ok B w s H) (g' : Ok B w' s' H') : (trim s s' = s' ∧ True) ∨ (trim s s' = s'.take s.length ∧ s.length ≤ s'.length ∧ Ok B (w'.take s.length) (s'.take s.length) H') := by
  unfold trim
  split
  · rename_i h
    exact .inr ⟨rfl, h.le, h.ok g g'⟩
  · exact .inl ⟨rfl, trivial⟩
/-- behind a turn -/
theorem trimE_ok (g : Ok B w s H) (g' : Ok B w' s' H') (l : Sl B w' e σ) : ∃ w2, w2.le w' ∧ (∀ b, b ≤ s.length → (w'.take b).le w2) ∧ Ok B w2 (trimE s e s') H' ∧ Sl B w2 e σ ∧ (s.length ≤ s'.length → s.length ≤ (trimE s e s').length) := by
  unfold trimE
  split
  · rename_i hl
    rcases trim_cases g g' with ⟨h, _⟩ | ⟨h, h1, h2⟩
    · rw [h]
      exact ⟨w', W.le.refl _, fun b hb => W.take_le _ _, g', l, id⟩
    · rw [h]
      refine ⟨w'.take s.length, W.take_le _ _, fun b hb => ⟨Ext.refl _, ?_⟩, h2, l.cut hl, fun _ => by rw [List.length_take]; omega⟩
      show w'.ρ.take b <+: w'.ρ.take s.length
      rw [show w'.ρ.take b = (w'.ρ.take s.length).take b by rw [List.take_take, Nat.min_eq_left hb]]
      exact List.take_prefix _ _
  · exact ⟨w', W.le.refl _, fun b hb => W.take_le _ _, g', l, id⟩
end

/-! ### what is walked -/
/-- the list that is walked stands as it was -/
def chkOk : Option (Nat × List D) → Sto → Prop
  | none, _ => True
  | some (j, ds), s => s[j]? = some (.lst ds)
abbrev MI := Lo → Sto → Option (List D × Option (Nat × List D) × Sto)
def WkN (B : Ba) (w0 : W) (J : It) (items : List D) (ck : Option (Nat × List D)) : Prop := ∀ w s H, w0.le w → Ok B w s H → chkOk ck s →
  (∀ i x, items[i]? = some x → J.go i H ∧ ∀ v H', J.yld i H v H' → ∃ w', w.le w' ∧ Ok B w' s H' ∧ VR B w' v x) ∧ J.stop items.length H
def tI (B : Ba) (e : Lo) (s : Sto) (items : List D) (ck : Option (Nat × List D)) (s1 : Sto) : TI := fun σ H R => ∃ w, Ok B w s H ∧ Sl B w e σ ∧ ∀ J w1 H1, w.le w1 → Ok B w1 s1 H1 → chkOk ck s1 → WkN B w1 J items ck → R J H1
def NI (X : Cx) (tg it : Expr) (m : MI) : Prop := ∀ e s items ck s1, m e s = some (items, ck, s1) → PI X tg it (tI (ba X) e s items ck s1)
section
variable {X : Cx} {ex a b c tg iter elt : Expr} {es ifs : List Expr} {st : Stmt} {rest body orelse : List Stmt} {m ma mb mc : ME} {ms : MA} {mt mu : MT} {pos p : Pos} {M M1 M2 : MS}
theorem PI.imp {t t' : TI} (h : PI X tg ex t) (k : ∀ σ H Q, t' σ H Q → t σ H Q) : PI X tg ex t' := Z.PI.imp h k
theorem NI.fam {mi : MI} (h : NI X tg iter mi) : PI X tg iter (fun σ H R => ∃ e s items ck s1, mi e s = some (items, ck, s1) ∧ tI (ba X) e s items ck s1 σ H R) :=
  ⟨fun pins sh σ H R I ⟨e, s, items, ck, s1, hm, q⟩ => (h e s items ck s1 hm).run pins sh σ H R I q⟩
/-- over a list -/
def iLst (m : ME) : MI := fun e s => match m e s with
  | some (.d (.list xs), s1) => some (xs.map .d, none, s1)
  | some (.r j, s1) => match s1[j]? with
    | some (.lst ds) => some (ds, some (j, ds), s1)
    | _ => none
  | _ => none
theorem ni_lst (h : NE X ex m) : NI X tg ex (iLst m) := fun e s items ck s1 hm => by
  unfold iLst at hm
  split at hm
  · rename_i xs s2 e1
    cases hm
    refine PI.imp (pi_list (h _ _ _ _ e1)) fun σ H R ⟨w, g, l, k⟩ => ⟨w, g, l, fun v w1 H1 l1 g1 v1 => ?_⟩
    cases v1 with
    | @lst a vs _ hs ha =>
      refine ⟨a, rfl, ⟨vs, g1.ext.l hs⟩, k _ w1 H1 l1 g1 trivial fun w2 s2 H2 l2 g2 _ => ?_⟩
      have hs2 : SqL X.K H2 a vs := g2.ext.l (l2.F.l hs)
      refine ⟨fun i x hx => ?_, _, hs2, by rw [List.length_map, dpsLen ha]; exact Nat.le_refl _⟩
      rw [List.getElem?_map] at hx
      obtain ⟨y, hy, rfl⟩ := Option.map_eq_some_iff.mp hx
      obtain ⟨v, h1, h2⟩ := dpsGet ha hy
      refine ⟨⟨_, v, hs2, h1⟩, fun v' H' ⟨e3, hv⟩ => ?_⟩
      subst e3
      have : v = v' := Option.some.inj (h1.symm.trans (hv _ hs2))
      subst this
      exact ⟨w2, W.le.refl _, g2, dpUp l2.F _ _ h2⟩
  · rename_i j s2 e1
    split at hm
    · rename_i ds e2
      cases hm
      refine PI.imp (pi_list (h _ _ _ _ e1)) fun σ H R ⟨w, g, l, k⟩ => ⟨w, g, l, fun v w1 H1 l1 g1 v1 => ?_⟩
      obtain ⟨a, h1, rfl⟩ := v1
      obtain ⟨_, vs, h2, h3⟩ := g1.ce _ _ a e2 h1
      refine ⟨a, rfl, ⟨vs, .of h2⟩, k _ w1 H1 l1 g1 e2 fun w2 s2 H2 l2 g2 c2 => ?_⟩
      obtain ⟨_, us, h4, h5⟩ := g2.ce _ _ a c2 (pre_get l2.ρ h1)
      have hs2 : SqL X.K H2 a us := .of h4
      refine ⟨fun i x hx => ?_, _, hs2, by rw [h5.len]; exact Nat.le_refl _⟩
      obtain ⟨v, h6, h7⟩ := h5.get hx
      refine ⟨⟨_, v, hs2, h6⟩, fun v' H' ⟨e3, hv⟩ => ?_⟩
      subst e3
      have : v = v' := Option.some.inj (h6.symm.trans (hv _ hs2))
      subst this
      exact ⟨w2, W.le.refl _, g2, h7⟩
    · cases hm
  · cases hm
/-- over a tuple -/
def iTupl (m : ME) : MI := fun e s => match m e s with
  | some (.d (.tuple xs), s1) => some (xs.map .d, none, s1)
  | _ => none
theorem ni_tup (h : NE X ex m) : NI X tg ex (iTupl m) := fun e s items ck s1 hm => by
  unfold iTupl at hm
  split at hm
  · rename_i xs s2 e1
    cases hm
    refine PI.imp (pi_tup (h _ _ _ _ e1)) fun σ H R ⟨w, g, l, k⟩ => ⟨w, g, l, fun v w1 H1 l1 g1 v1 => ?_⟩
    obtain ⟨a, vs, rfl, hs, ha⟩ := dp_tup v1
    refine ⟨a, rfl, ⟨vs, g1.ext.t hs⟩, k _ w1 H1 l1 g1 trivial fun w2 s2 H2 l2 g2 _ => ?_⟩
    have hs2 : SqT X.K H2 a vs := g2.ext.t (l2.F.t hs)
    refine ⟨fun i x hx => ?_, _, hs2, by rw [List.length_map, dpsLen ha]; exact Nat.le_refl _⟩
    rw [List.getElem?_map] at hx
    obtain ⟨y, hy, rfl⟩ := Option.map_eq_some_iff.mp hx
    obtain ⟨v, h1, h2⟩ := dpsGet ha hy
    refine ⟨⟨_, v, hs2, h1⟩, fun v' H' ⟨e3, hv⟩ => ?_⟩
    subst e3
    have : v = v' := Option.some.inj (h1.symm.trans (hv _ hs2))
    subst this
    exact ⟨w2, W.le.refl _, g2, dpUp l2.F _ _ h2⟩
  · cases hm
/-- a tuple or a list, as it comes -/
def iSeq (m : ME) : MI := fun e s => match m e s with
  | some (.d (.tuple xs), s1) => some (xs.map .d, none, s1)
  | _ => iLst m e s
theorem ni_seq (h : NE X ex m) : NI X tg ex (iSeq m) := fun e s items ck s1 hm => by
  unfold iSeq at hm
  split at hm
  · rename_i xs s2 e1
    exact ni_tup h e s items ck s1 (by unfold iTupl; rw [e1]; exact hm)
  · exact ni_lst h e s items ck s1 hm
def rngD (lo : Int) (n : Nat) : List D := (List.range n).map fun k => .d (.int (lo + (k : Nat)))
theorem rngD_len {lo : Int} {n : Nat} : (rngD lo n).length = n := by unfold rngD; simp
theorem rngD_get {lo : Int} {n k : Nat} (h : k < n) : (rngD lo n)[k]? = some (.d (.int (lo + (k : Nat)))) := by
  unfold rngD
  rw [List.getElem?_map, List.getElem?_range h]
  rfl
theorem wk_rng {B : Ba} {w0 : W} {lo : Int} {n : Nat} : WkN B w0 (Itr lo n) (rngD lo n) none := fun w s H l g _ => by
  refine ⟨fun k x hx => ?_, Nat.le_of_eq rngD_len.symm⟩
  have hk : k < n := by
    have := (List.getElem?_eq_some_iff.mp hx).1
    rwa [rngD_len] at this
  rw [rngD_get hk] at hx
  cases hx
  refine ⟨hk, fun v H' ⟨e1, e2⟩ => ?_⟩
  subst e1 e2
  exact ⟨w, W.le.refl _, g, vi⟩
def iRng1 (ms : MA) : MI := fun e s => match ms e s with
  | some ([.d (.int j)], s1) => if -(2 ^ 62) ≤ j ∧ j < 2 ^ 62 then some (rngD 0 j.toNat, none, s1) else none
  | _ => none
def iRng2 (ms : MA) : MI := fun e s => match ms e s with
  | some ([.d (.int i), .d (.int j)], s1) => if -(2 ^ 62) ≤ i ∧ i < 2 ^ 62 ∧ -(2 ^ 62) ≤ j ∧ j < 2 ^ 62 then some (rngD i (j - i).toNat, none, s1) else none
  | _ => none
theorem ni_rng1 (h : NA X [a] ms) (hm : X.mg "range" = none) (hg : Gl X "range" := by rfl) (hs : starEach [a] X.env = [(false, eval a X.env)] := by rfl) : NI X tg (.Call (.Name "range" p) [a] [] pos) (iRng1 ms) := fun e s items ck s1 hmm => by
  unfold iRng1 at hmm
  split at hmm
  · rename_i j s2 e1
    split at hmm
    · rename_i hj
      cases hmm
      refine PI.imp (pi_range1 hg hm (h _ _ _ _ e1) hs) fun σ H R ⟨w, g, l, k⟩ => ⟨w, g, l, fun us w1 H1 l1 g1 v1 => ?_⟩
      obtain ⟨u, rfl, h1⟩ := vrs1 v1
      cases vr_int h1
      exact ⟨j, rfl, hj.1, hj.2, k _ w1 H1 l1 g1 trivial wk_rng⟩
    · cases hmm
  · cases hmm
theorem ni_rng2 (h : NA X [a, b] ms) (hm : X.mg "range" = none) (hg : Gl X "range" := by rfl) (hs : starEach [a, b] X.env = [(false, eval a X.env), (false, eval b X.env)] := by rfl)
    (hs2 : starEach [b] X.env = [(false, eval b X.env)] := by rfl) : NI X tg (.Call (.Name "range" p) [a, b] [] pos) (iRng2 ms) := fun e s items ck s1 hmm => by
  unfold iRng2 at hmm
  split at hmm
  · rename_i i j s2 e1
    split at hmm
    · rename_i hj
      cases hmm
      refine PI.imp (pi_range2 hg hm (h _ _ _ _ e1) hs hs2) fun σ H R ⟨w, g, l, k⟩ => ⟨w, g, l, fun us w1 H1 l1 g1 v1 => ?_⟩
      obtain ⟨u, v, rfl, h1, h2⟩ := vrs2 v1
      cases vr_int h1
      cases vr_int h2
      exact ⟨i, j, rfl, hj, k _ w1 H1 l1 g1 trivial wk_rng⟩
    · cases hmm
  · cases hmm

/-! ### for -/
/-- one turn: the target, the block, what is forgotten behind it -/
noncomputable def turnF (g : MG) (M : MS) (dead : List Nat) (x : D) : MS := fun e s => match g x e with
  | some e1 => match M e1 s with
    | some (.nx, e2, s2) => some (.nx, wipeN e2 dead, trimE s (wipeN e2 dead) s2)
    | some (.ct, e2, s2) => some (.nx, wipeN e2 dead, trimE s (wipeN e2 dead) s2)
    | r => r
  | none => none
open Classical in
noncomputable def forL (ck : Option (Nat × List D)) (T : D → MS) : List D → MS
  | [] => fun e s => if chkOk ck s then some (.nx, e, s) else none
  | x :: xs => fun e s => if chkOk ck s then match T x e s with
      | some (.nx, e1, s1) => forL ck T xs e1 s1
      | some (.bk, e1, s1) => some (.nx, e1, s1)
      | some (.rt d, e1, s1) => some (.rt d, e1, s1)
      | _ => none
    else none
noncomputable def sFor (mi : MI) (g : MG) (M : MS) (dead : List Nat) : MS := fun e s => match mi e s with
  | some (items, ck, s1) => forL ck (turnF g M dead) items e s1
  | none => none
theorem W.le.of_take {w w' : W} {n : Nat} (h : (w.take n).le w') (hn : w.ρ.length = n) : w.le w' := by
  refine ⟨h.F, ?_⟩
  have k := h.ρ
  rw [show (w.take n).ρ = w.ρ.take n from rfl, List.take_of_length_le (by omega)] at k
  exact k
theorem W.take_take {w w' : W} {b n : Nat} (h : (w.take n).le w') (hb : b ≤ n) : (w.take b).le w' := by
  refine ⟨h.F, List.IsPrefix.trans ?_ h.ρ⟩
  show w.ρ.take b <+: w.ρ.take n
  rw [show w.ρ.take b = (w.ρ.take n).take b by rw [List.take_take, Nat.min_eq_left hb]]
  exact List.take_prefix _ _
theorem ns_for {mi : MI} {vs : List Nat} {g : MG} {dead : List Nat} (hi : NI X tg iter mi) (hg : NG X tg vs g) (hb : NSs X body M) (hp : PassesOwn (model X.prog X.w) X.A X.env X.xe) (hc : X.calm = true := by rfl) (hs : ∀ x, foldedSetIterable iter X.env x = pure x := by intro _; rfl) :
    NS X (.For tg iter body [] pos) (sFor mi g M dead) := fun e s fl e' s' b hm hbs => by
  unfold sFor at hm
  split at hm
  · rename_i items ck s1 e1
    refine Z.PS.imp (ps_for hp hc (hi _ _ _ _ _ e1) hg.fam hb.fam hs) fun Dn σ H ⟨w, G, l, k⟩ => ⟨w, G, l, fun J w1 H1 l1 g1 ck1 wk => ?_⟩
    have hn : w1.ρ.length = s1.length := g1.lr
    have hbn : b ≤ s1.length := Nat.le_trans hbs (le_len l1 G g1)
    have k1 := k.mono (l1.cut b) (by rw [G.lr]; exact hbs)
    refine ⟨fun i m σ' H' => m = items.length - i ∧ i ≤ items.length ∧ ∃ e2 s2 w2, forL ck (turnF g M dead) (items.drop i) e2 s2 = some (fl, e', s') ∧ w1.le w2 ∧ s1.length ≤ s2.length ∧ Ok (ba X) w2 s2 H' ∧ Sl (ba X) w2 e2 σ',
      ⟨_, rfl, Nat.zero_le _, e, s1, w1, hm, W.le.refl _, Nat.le_refl _, g1, l.up l1⟩, ?_⟩
    rintro i m σ' H' ⟨rfl, hi', e2, s2, w2, hf, l2, n2, g2, sl2⟩
    by_cases hlt : i < items.length
    · rw [List.drop_eq_getElem_cons hlt] at hf
      unfold forL at hf
      split at hf
      · rename_i hck
        obtain ⟨wk1, _⟩ := wk w2 s2 H' l2 g2 hck
        obtain ⟨go, yl⟩ := wk1 i items[i] (List.getElem?_eq_getElem hlt)
        refine .inr ⟨go, fun σ3 H3 => ∃ e3 s3 w3, forL ck (turnF g M dead) (items.drop (i + 1)) e3 s3 = some (fl, e', s') ∧ w1.le w3 ∧ s1.length ≤ s3.length ∧ Ok (ba X) w3 s3 H3 ∧ Sl (ba X) w3 e3 σ3,
          fun σ3 H3 h3 => ⟨items.length - (i + 1), by omega, rfl, hlt, h3⟩, fun v H4 y => ?_⟩
        obtain ⟨w4, l4, g4, v4⟩ := yl v H4 y
        have sl4 := sl2.up l4
        have l14 := l2.trans l4
        have n4 : s1.length ≤ w4.ρ.length := by rw [g4.lr]; exact n2
        -- one turn
        unfold turnF at hf
        cases hgx : g items[i] e2 with
        | none => rw [hgx] at hf; cases hf
        | some e3 =>
          rw [hgx] at hf
          refine ⟨s2, _, _, _, hgx, w4, g4, sl4, v4, fun σ5 o l5 => ?_⟩
          cases hM : M e3 s2 with
          | none => simp only [hM] at hf; cases hf
          | some z =>
            obtain ⟨f2, e5, s5⟩ := z
            simp only [hM] at hf
            refine ⟨_, _, _, _, _, s1.length, hM, n2, w4, g4, l5, ?_⟩
            have back : ∀ {w' : W}, (w4.take s1.length).le w' → w1.le w' := fun h => by
              have h0 : (w1.take s1.length).le w4 := l14.cut _
              exact W.le.of_take (W.cut_trans h0 (by omega) h) hn
            have next : ∀ w' σ' H', (w4.take s1.length).le w' → Ok (ba X) w' s5 H' → Sl (ba X) w' e5 σ' → forL ck (turnF g M dead) (items.drop (i + 1)) (wipeN e5 dead) (trimE s2 (wipeN e5 dead) s5) = some (fl, e', s') →
                ∃ e3 s3 w3, forL ck (turnF g M dead) (items.drop (i + 1)) e3 s3 = some (fl, e', s') ∧ w1.le w3 ∧ s1.length ≤ s3.length ∧ Ok (ba X) w3 s3 H' ∧ Sl (ba X) w3 e3 σ' := fun w' σ' H' lw gw sw hf' => by
              have sw2 : Sl (ba X) w' (wipeN e5 dead) σ' := sw.wk (wipeN_len _ _) fun i d h => (wipeN_get h).1
              obtain ⟨w6, a1, a2, a3, a4, a5⟩ := trimE_ok (s := s2) g4 gw sw2
              refine ⟨_, _, w6, hf', ?_, ?_, a3, a4⟩
              · have h0 : (w1.take s1.length).le w' := (back lw).cut _
                exact W.le.of_take (W.cut_trans h0 (by omega) (a2 _ n2)) hn
              · have h1 := (W.cut_eq lw n4).1
                have h2 := (W.cut_eq (a2 _ n2) h1).1
                rw [a3.lr] at h2
                exact h2
            cases f2 with
            | nx => exact fun w' σ' H' lw gw sw => next w' σ' H' lw gw sw hf
            | ct => exact fun w' σ' H' lw gw sw => next w' σ' H' lw gw sw hf
            | rt d =>
              cases hf
              exact fun w' v H' lw gw vw => k1 w' v H' ((back lw).cut b) gw vw
            | bk =>
              cases hf
              exact fun w' σ' H' lw gw sw => k1 w' σ' H' ((back lw).cut b) gw sw
      · cases hf
    · have e : i = items.length := by omega
      subst e
      rw [List.drop_length] at hf
      unfold forL at hf
      split at hf
      · rename_i hck
        cases hf
        obtain ⟨_, w2'⟩ := wk w2 _ H' l2 g2 hck
        exact .inl ⟨w2', k1 w2 σ' H' (l2.cut b) g2 sl2⟩
      · cases hf
  · cases hm

/-! ### while -/
noncomputable def whileL (mt : MT) (M : MS) (dead : List Nat) : Nat → MS
  | 0 => fun _ _ => none
  | n + 1 => fun e s => match mt e s with
    | some (true, s1) => match M e s1 with
      | some (.nx, e2, s2) => whileL mt M dead n (wipeN e2 dead) (trimE s (wipeN e2 dead) s2)
      | some (.ct, e2, s2) => whileL mt M dead n (wipeN e2 dead) (trimE s (wipeN e2 dead) s2)
      | some (.bk, e2, s2) => some (.nx, e2, s2)
      | some (.rt d, e2, s2) => some (.rt d, e2, s2)
      | none => none
    | some (false, s1) => some (.nx, e, s1)
    | none => none
noncomputable def sWhile (mt : MT) (M : MS) (dead : List Nat) : MS := fun e s => whileL mt M dead (2 ^ 64) e s
theorem ns_while {dead : List Nat} (hc : NT X c mt) (hb : NSs X body M) (hp : PassesOwn (model X.prog X.w) X.A X.env X.xe) : NS X (.While c body [] pos) (sWhile mt M dead) := fun e s fl e' s' b hm hbs => by
  refine Z.PS.imp (ps_while hp hc.fam hb.fam) fun Dn σ H ⟨w, G, l, k⟩ => ?_
  have hn : w.ρ.length = s.length := G.lr
  refine ⟨fun m σ' H' => ∃ e2 s2 w2, whileL mt M dead m e2 s2 = some (fl, e', s') ∧ w.le w2 ∧ s.length ≤ s2.length ∧ Ok (ba X) w2 s2 H' ∧ Sl (ba X) w2 e2 σ',
    ⟨_, e, s, w, hm, W.le.refl _, Nat.le_refl _, G, l⟩, ?_⟩
  rintro m σ' H' ⟨e2, s2, w2, hf, l2, n2, g2, sl2⟩
  cases m with
  | zero => cases hf
  | succ m =>
    unfold whileL at hf
    cases ht : mt e2 s2 with
    | none => rw [ht] at hf; cases hf
    | some z =>
      obtain ⟨kk, s3⟩ := z
      rw [ht] at hf
      refine ⟨e2, s2, kk, s3, ht, w2, g2, sl2, fun w3 H3 l3 g3 => ?_⟩
      have l13 := l2.trans l3
      have sl3 := sl2.up l3
      cases kk with
      | false =>
        dsimp only
        rw [if_neg Bool.false_ne_true]
        cases hf
        exact k w3 σ' H3 (l13.cut b) g3 sl3
      | true =>
        dsimp only
        rw [if_pos rfl]
        have n3 : s.length ≤ s3.length := Nat.le_trans n2 (le_len l3 g2 g3)
        refine ⟨fun σ5 H5 => ∃ e2 s2 w2, whileL mt M dead m e2 s2 = some (fl, e', s') ∧ w.le w2 ∧ s.length ≤ s2.length ∧ Ok (ba X) w2 s2 H5 ∧ Sl (ba X) w2 e2 σ5, fun σ5 H5 h5 => ⟨m, Nat.lt_succ_self m, h5⟩, ?_⟩
        cases hM : M e2 s3 with
        | none => simp only [hM] at hf; cases hf
        | some z =>
          obtain ⟨f2, e5, s5⟩ := z
          simp only [hM] at hf
          refine ⟨_, _, _, _, _, s.length, hM, n3, w3, g3, sl3, ?_⟩
          have n3' : s.length ≤ w3.ρ.length := by rw [g3.lr]; exact n3
          have back : ∀ {w' : W}, (w3.take s.length).le w' → w.le w' := fun h => by
            have h0 : (w.take s.length).le w3 := l13.cut _
            exact W.le.of_take (W.cut_trans h0 (by omega) h) hn
          have next : ∀ w' σ' H', (w3.take s.length).le w' → Ok (ba X) w' s5 H' → Sl (ba X) w' e5 σ' → whileL mt M dead m (wipeN e5 dead) (trimE s2 (wipeN e5 dead) s5) = some (fl, e', s') →
              ∃ e2 s2 w2, whileL mt M dead m e2 s2 = some (fl, e', s') ∧ w.le w2 ∧ s.length ≤ s2.length ∧ Ok (ba X) w2 s2 H' ∧ Sl (ba X) w2 e2 σ' := fun w' σ' H' lw gw sw hf' => by
            have sw2 : Sl (ba X) w' (wipeN e5 dead) σ' := sw.wk (wipeN_len _ _) fun i d h => (wipeN_get h).1
            obtain ⟨w6, a1, a2, a3, a4, a5⟩ := trimE_ok (s := s2) g2 gw sw2
            refine ⟨_, _, w6, hf', ?_, ?_, a3, a4⟩
            · have h0 : (w.take s.length).le w' := (back lw).cut _
              exact W.le.of_take (W.cut_trans h0 (by omega) (a2 _ n2)) hn
            · have h1 := (W.cut_eq lw n3').1
              have h2 := (W.cut_eq (a2 _ n2) h1).1
              rw [a3.lr] at h2
              exact h2
          cases f2 with
          | nx => exact fun w' σ' H' lw gw sw => next w' σ' H' lw gw sw hf
          | ct => exact fun w' σ' H' lw gw sw => next w' σ' H' lw gw sw hf
          | rt d =>
            cases hf
            exact fun w' v H' lw gw vw => k w' v H' ((back lw).cut b) gw vw
          | bk =>
            cases hf
            exact fun w' σ' H' lw gw sw => k w' σ' H' ((back lw).cut b) gw sw
end
end N

namespace N
open PySem L2 PyProof.Rows
open Z (Ext dpUp dpsUp dpsLen dpsGet DxO KyD DEn Cl cut offv bl Dfn)

/-! ### comprehensions -/
open Classical in
noncomputable def lcL (k : Nat) (ck : Option (Nat × List D)) (g : MG) (mt : MT) (el : ME) (e0 : Lo) : List D → Sto → Option Sto
  | [], s => if chkOk ck s then some s else none
  | x :: xs, s => if chkOk ck s then match g x e0 with
      | some e1 => match mt e1 s with
        | some (true, s1) => match el e1 s1 with
          | some (y, s2) => match s2[k]? with
            | some (.lst acc) => if acc.length < lim then lcL k ck g mt el e0 xs (s2.set k (.lst (acc ++ [y]))) else none
            | _ => none
          | none => none
        | some (false, s1) => lcL k ck g mt el e0 xs s1
        | none => none
      | none => none
    else none
noncomputable def lcFin (own : Bool) (s1 s2 : Sto) : Option (D × Sto) := match s2[s1.length]? with
  | some (.lst ds) => if own then some (.r s1.length, s2) else match data ds with
    | some xs => some (.d (.list xs), trim s1 (s2.set s1.length .gone))
    | none => none
  | _ => none
noncomputable def eLc (own : Bool) (vs : List Nat) (mi : MI) (g : MG) (mt : MT) (el : ME) : ME := fun e s => match mi e s with
  | some (items, ck, s1) => match lcL s1.length ck g mt el (wipeN e vs) items (s1 ++ [.lst []]) with
    | some s2 => lcFin own s1 s2
    | none => none
  | none => none
def tTrue : MT := fun _ s => some (true, s)
def NTs (X : Cx) (ifs : List Expr) (m : MT) : Prop := ∀ e s b s', m e s = some (b, s') → PTs X ifs (tT (ba X) e s b s')
theorem nts_nil {X : Cx} : NTs X [] tTrue := fun e s b s' h => by
  cases h
  exact ⟨fun pins sh σ H Q I ⟨w, g, l, q⟩ => pts_nil.run pins sh σ H Q I (q w H (W.le.refl w) g)⟩
theorem nts_one {X : Cx} {c : Expr} {m : MT} (h : NT X c m) : NTs X [c] m := fun e s b s' hm => pts_one (h _ _ _ _ hm)
section
variable {B : Ba} {w w' : W} {s s' : Sto} {H H' : Hp} {e : Lo} {σ : L2.St}
theorem Sl.wipe (h : Sl B w e σ) (vs : List Nat) : Sl B w (wipeN e vs) (L2.wipe σ vs) := ⟨by rw [wipeN_len, wipe_length]; exact h.le, fun i d q => by
  obtain ⟨z1, z2⟩ := wipeN_get q
  obtain ⟨v, h1, h2⟩ := h.sl i d z1
  exact ⟨v, by rw [Z.wipe_keep z2]; exact h1, h2⟩⟩
theorem mkFin_ok {own : Bool} {s1 s2 : Sto} {w1 w2 : W} {H1 H2 : Hp} {d : D} {p : Addr} (h : lcFin own s1 s2 = some (d, s')) (g1 : Ok B w1 s1 H1) (l : w1.le w2) (hp : w2.ρ[s1.length]? = some p) (g2 : Ok B w2 s2 H2) : ∃ w3, w1.le w3 ∧ Ok B w3 s' H2 ∧ VR B w3 (.ref p) d := by
  unfold lcFin at h
  split at h
  · rename_i ds e1
    split at h
    · cases h
      exact ⟨w2, l, g2, p, hp, rfl⟩
    · split at h
      · rename_i xs e2
        cases h
        rw [data_eq e2] at e1
        obtain ⟨w3, l3, g3, d3⟩ := g2.freeze e1 hp
        rcases trim_cases g1 g3 with ⟨h, _⟩ | ⟨h, h1, h2⟩
        · rw [h]
          exact ⟨w3, l.trans l3, g3, d3⟩
        · rw [h]
          refine ⟨w3.take s1.length, ⟨(l.trans l3).F, ?_⟩, h2, d3⟩
          obtain ⟨m, hm⟩ := (l.trans l3).ρ
          show w1.ρ <+: w3.ρ.take s1.length
          rw [← hm, ← g1.lr, List.take_append_of_le_length (Nat.le_refl _), List.take_length]
          exact List.prefix_rfl
      · cases h
  · cases h
end
section
variable {X : Cx} {ex a b c tg iter elt : Expr} {es ifs : List Expr} {st : Stmt} {rest body orelse : List Stmt} {m ma mb mc : ME} {ms : MA} {mt mu : MT} {pos p : Pos} {M M1 M2 : MS}
theorem lc_run {mi : MI} {g : MG} {el : ME} {own : Bool} {vs : List Nat} {e : Lo} {s s' : Sto} {d : D} (h : eLc own vs mi g mt el e s = some (d, s')) {wi : TI} (hw : ∀ items ck s1 σ H R, mi e s = some (items, ck, s1) → tI (ba X) e s items ck s1 σ H R → wi σ H R)
    {G : TG} {TT' : TT} {EE : TE} (hG : ∀ s d e e' v σ H Q, g d e = some e' → tG (ba X) vs s d e e' v σ H Q → G v σ H Q) (hT : ∀ e s b s' σ H Q, mt e s = some (b, s') → tT (ba X) e s b s' σ H Q → TT' σ H Q) (hE : ∀ e s d s' σ H Q, el e s = some (d, s') → tE (ba X) e s d s' σ H Q → EE σ H Q) :
    ∀ σ H Q, tE (ba X) e s d s' σ H Q → tLc wi G TT' EE vs σ H Q := by
  intro σ H Q ⟨w, g0, l, k⟩
  unfold eLc at h
  split at h
  · rename_i items ck s1 e1
    split at h
    · rename_i sF eF
      refine hw _ _ _ _ _ _ e1 ⟨w, g0, l, fun J w1 H1 l1 g1 ck1 wk D hD => ?_⟩
      have gD : Ok (ba X) ⟨w1.F, w1.ρ ++ [D]⟩ (s1 ++ [.lst []]) (upd H1 D (.lst [])) := g1.new hD ⟨ext_none g1.ext hD, [], upd_same, trivial⟩
      have lD : w1.le ⟨w1.F, w1.ρ ++ [D]⟩ := Ok.new_le
      have atD : (w1.ρ ++ [D])[s1.length]? = some D := by rw [← g1.lr, List.getElem?_append_right (Nat.le_refl _), Nat.sub_self]; rfl
      refine ⟨fun i m H' => m = items.length - i ∧ i ≤ items.length ∧ ∃ s2 w2, lcL s1.length ck g mt el (wipeN e vs) (items.drop i) s2 = some sF ∧ W.le ⟨w1.F, w1.ρ ++ [D]⟩ w2 ∧ Ok (ba X) w2 s2 H', ⟨_, rfl, Nat.zero_le _, _, _, eF, W.le.refl _, gD⟩, ?_⟩
      rintro i m H' ⟨rfl, hi', s2, w2, hf, l2, g2⟩
      have slw : ∀ {w' : W}, W.le ⟨w1.F, w1.ρ ++ [D]⟩ w' → Sl (ba X) w' (wipeN e vs) (wipe σ vs) := fun h => (l.up ((l1.trans lD).trans h)).wipe vs
      by_cases hlt : i < items.length
      · rw [List.drop_eq_getElem_cons hlt] at hf
        unfold lcL at hf
        split at hf
        · rename_i hck
          obtain ⟨wk1, _⟩ := wk w2 s2 H' (lD.trans l2) g2 hck
          obtain ⟨go, yl⟩ := wk1 i items[i] (List.getElem?_eq_getElem hlt)
          refine .inr ⟨go, fun H3 => ∃ s3 w3, lcL s1.length ck g mt el (wipeN e vs) (items.drop (i + 1)) s3 = some sF ∧ W.le ⟨w1.F, w1.ρ ++ [D]⟩ w3 ∧ Ok (ba X) w3 s3 H3, fun H3 h3 => ⟨items.length - (i + 1), by omega, rfl, hlt, h3⟩, fun v H4 y => ?_⟩
          obtain ⟨w4, l4, g4, v4⟩ := yl v H4 y
          cases hgx : g items[i] (wipeN e vs) with
          | none => rw [hgx] at hf; cases hf
          | some e3 =>
            rw [hgx] at hf
            refine hG _ _ _ _ _ _ _ _ hgx ⟨w4, g4, slw (l2.trans l4), v4, fun σ5 o l5 => ⟨Z.wipe_off o, ?_⟩⟩
            cases hM : mt e3 s2 with
            | none => simp only [hM] at hf; cases hf
            | some z =>
              obtain ⟨bb, s5⟩ := z
              simp only [hM] at hf
              refine hT _ _ _ _ _ _ _ hM ⟨w4, g4, l5, fun w6 H6 l6 g6 => ?_⟩
              cases bb with
              | false =>
                dsimp only
                rw [if_neg Bool.false_ne_true]
                exact ⟨s5, w6, hf, (l2.trans l4).trans l6, g6⟩
              | true =>
                dsimp only
                rw [if_pos rfl]
                cases hE2 : el e3 s5 with
                | none => simp only [hE2] at hf; cases hf
                | some z =>
                  obtain ⟨yd, s7⟩ := z
                  simp only [hE2] at hf
                  refine hE _ _ _ _ _ _ _ hE2 ⟨w6, g6, l5.up l6, fun u w8 H8 l8 g8 v8 => ?_⟩
                  have l18 := ((l2.trans l4).trans l6).trans l8
                  have at8 : w8.ρ[s1.length]? = some D := pre_get l18.ρ atD
                  split at hf
                  · rename_i acc e8
                    split at hf
                    · rename_i hl
                      obtain ⟨a9, vs9, q1, q2, q3, q4⟩ := chg_lst (v := .ref D) g8 ⟨D, at8, rfl⟩ e8
                      cases q1
                      exact ⟨vs9, q2, by rw [q3.len]; exact Nat.lt_trans hl lim_lt, _, w8, hf, l18, q4 _ _ (q3.app ⟨v8, trivial⟩)⟩
                    · cases hf
                  · cases hf
        · cases hf
      · have e' : i = items.length := by omega
        subst e'
        rw [List.drop_length] at hf
        unfold lcL at hf
        split at hf
        · rename_i hck
          cases hf
          obtain ⟨_, st⟩ := wk w2 _ H' (lD.trans l2) g2 hck
          obtain ⟨w3, a1, a2, a3⟩ := mkFin_ok h g1 (lD.trans l2) (pre_get l2.ρ atD) g2
          exact .inl ⟨st, k _ w3 H' (l1.trans a1) a2 a3⟩
        · cases hf
    · cases h
  · cases h
section
variable {scope : Scope} {own : List (Str × Nat)} {ow : Bool} {vs : List Nat} {mi : MI} {g : MG} {el : ME}
theorem n_lc (hi : NI X tg iter mi) (hg : ∀ z, NG (bl X scope z) tg vs g) (ht : ∀ z, NTs (bl X scope z) ifs mt) (he : ∀ z, NE (bl X scope z) elt el) (hN : X.N.Nodup) (ok : BlkOk X.N X.env.scope scope own) (hvs : own.map (·.2) = vs := by rfl) (hc : X.calm = true := by rfl) (hs : ∀ x, foldedSetIterable iter X.env x = pure x := by intro _; rfl) :
    NE X (.ListComp elt [⟨tg, iter, ifs, 0⟩] scope pos) (eLc ow vs mi g mt el) := fun e s d s' h => by
  subst hvs
  refine PE.imp (pe_lc hc hN hi.fam ok (fun sh H C cl fp => (show PG (X.blk sh H scope (compEnvC scope cl C X.env) fp) tg (fun v σ H Q => ∃ s d e e', g d e = some e' ∧ tG (ba X) (own.map (·.2)) s d e e' v σ H Q) from (hg (sh, H, C, cl, fp)).fam)) (fun sh H C cl fp => (⟨fun pins sh' σ H' Q I ⟨e, s, b, s', hm, q⟩ => (ht (sh, H, C, cl, fp) e s b s' hm).run pins sh' σ H' Q I q⟩ : PTs _ ifs (fun σ H Q => ∃ e s b s', mt e s = some (b, s') ∧ tT (ba X) e s b s' σ H Q))) (fun sh H C cl fp => (show PE (X.blk sh H scope (compEnvC scope cl C X.env) fp) elt (fun σ H Q => ∃ e s d s', el e s = some (d, s') ∧ tE (ba X) e s d s' σ H Q) from (he (sh, H, C, cl, fp)).fam)) hs) ?_
  exact lc_run h (fun items ck s1 σ H R h1 h2 => ⟨e, s, items, ck, s1, h1, h2⟩) (fun s d e e' v σ H Q h1 h2 => ⟨s, d, e, e', h1, h2⟩) (fun e s b s' σ H Q h1 h2 => ⟨e, s, b, s', h1, h2⟩) (fun e s d s' σ H Q h1 h2 => ⟨e, s, d, s', h1, h2⟩)
/-- name = [..] -/
theorem ns_setLc {y : Str} {py spos : Pos} (i : Nat) (hi : NI X tg iter mi) (hg : ∀ z, NG (bl X scope z) tg vs g) (ht : ∀ z, NTs (bl X scope z) ifs mt) (he : ∀ z, NE (bl X scope z) elt el) (hN : X.N.Nodup) (ok : BlkOk X.N X.env.scope scope own) (hvs : own.map (·.2) = vs := by rfl) (hc : X.calm = true := by rfl) (hs : ∀ x, foldedSetIterable iter X.env x = pure x := by intro _; rfl)
    (hy : X.N[i]? = some y := by rfl) (hyl : X.env.scope.names.lookup y = some .local := by rfl) (hsw : swapsWith (.ListComp elt [⟨tg, iter, ifs, 0⟩] scope pos) (some (.Name y py)) spos.line X.env = pure true := by rfl) :
    NS X (.Assign [.Name y py] (.ListComp elt [⟨tg, iter, ifs, 0⟩] scope pos) spos) (sSet i (eLc ow vs mi g mt el)) := fun e s fl e' s' b hm hb => by
  subst hvs
  unfold sSet at hm
  split at hm
  · rename_i d s1 h
    cases hm
    refine Z.PS.imp (ps_setLc hc hN hy hyl hsw hi.fam ok (fun sh H C cl fp => (show PG (X.blk sh H scope (compEnvC scope cl C X.env) fp) tg (fun v σ H Q => ∃ s d e e', g d e = some e' ∧ tG (ba X) (own.map (·.2)) s d e e' v σ H Q) from (hg (sh, H, C, cl, fp)).fam)) (fun sh H C cl fp => (⟨fun pins sh' σ H' Q I ⟨e, s, b, s', hm, q⟩ => (ht (sh, H, C, cl, fp) e s b s' hm).run pins sh' σ H' Q I q⟩ : PTs _ ifs (fun σ H Q => ∃ e s b s', mt e s = some (b, s') ∧ tT (ba X) e s b s' σ H Q))) (fun sh H C cl fp => (show PE (X.blk sh H scope (compEnvC scope cl C X.env) fp) elt (fun σ H Q => ∃ e s d s', el e s = some (d, s') ∧ tE (ba X) e s d s' σ H Q) from (he (sh, H, C, cl, fp)).fam)) hs) fun Dn σ H ⟨w, G, l, k⟩ => ?_
    refine lc_run h (fun items ck s1 σ H R h1 h2 => ⟨e, s, items, ck, s1, h1, h2⟩) (fun s d e e' v σ H Q h1 h2 => ⟨s, d, e, e', h1, h2⟩) (fun e s b s' σ H Q h1 h2 => ⟨e, s, b, s', h1, h2⟩) (fun e s d s' σ H Q h1 h2 => ⟨e, s, d, s', h1, h2⟩) σ H _ ⟨w, G, l, fun v w1 H1 l1 g1 v1 => ?_⟩
    exact k w1 _ H1 (l1.cut b) g1 ((l.up l1).put i v1)
  · cases hm
end

/-! ### functions -/
/-- what a call leaves: the store cut back; a list of one's own becomes a datum -/
noncomputable def ret (own : Bool) (s : Sto) (d : D) (s' : Sto) : Option (D × Sto) := match d with
  | .d x => some (.d x, trim s s')
  | .r j => if j < s.length then some (.r j, trim s s') else if own then some (.r j, s') else match s'[j]? with
    | some (.lst ds) => match data ds with
      | some xs => some (.d (.list xs), trim s (s'.set j .gone))
      | none => some (.r j, s')
    | _ => some (.r j, s')
noncomputable def fnR (np n : Nat) (own : Bool) (M : MS) : FA := fun s ds => if ds.length = np then match M (ds.map some ++ List.replicate (n - np) none) s with
  | some (.rt d, _, s') => ret own s d s'
  | some (.nx, _, s') => ret own s (.d .none) s'
  | _ => none
  else none
def spN (B : Ba) (F : FA) : Sp := fun vs H Q _ => ∃ w ds s d s', Ok B w s H ∧ VRs B w vs ds ∧ F s ds = some (d, s') ∧ ∀ v w' H', w.le w' → Ok B w' s' H' → VR B w' v d → Q v H'
theorem ret_ok {B : Ba} {own : Bool} {w w' : W} {s s1 s' : Sto} {H H' : Hp} {d0 d : D} {v : V} (h : ret own s d0 s1 = some (d, s')) (g : Ok B w s H) (l : w.le w') (g' : Ok B w' s1 H') (hv : VR B w' v d0) : ∃ w2, w.le w2 ∧ Ok B w2 s' H' ∧ VR B w2 v d := by
  have cutw : ∀ {w3 : W}, w.le w3 → w.le (w3.take s.length) := fun {w3} l3 => ⟨l3.F, by
    obtain ⟨m, hm⟩ := l3.ρ
    show w.ρ <+: w3.ρ.take s.length
    rw [← hm, ← g.lr, List.take_append_of_le_length (Nat.le_refl _), List.take_length]
    exact List.prefix_rfl⟩
  unfold ret at h
  split at h
  · rename_i x
    cases h
    rcases trim_cases g g' with ⟨h, _⟩ | ⟨h, h1, h2⟩
    · rw [h]; exact ⟨w', l, g', hv⟩
    · rw [h]; exact ⟨_, cutw l, h2, hv⟩
  · rename_i j
    split at h
    · rename_i hj
      cases h
      rcases trim_cases g g' with ⟨h, _⟩ | ⟨h, h1, h2⟩
      · rw [h]; exact ⟨w', l, g', hv⟩
      · rw [h]; exact ⟨_, cutw l, h2, hv.cut fun k e => by cases e; exact hj⟩
    · split at h
      · cases h
        exact ⟨w', l, g', hv⟩
      · split at h
        · rename_i ds e1
          split at h
          · rename_i xs e2
            cases h
            rw [data_eq e2] at e1
            obtain ⟨a, h1, rfl⟩ := hv
            obtain ⟨w3, l3, g3, d3⟩ := g'.freeze e1 h1
            rcases trim_cases g g3 with ⟨h, _⟩ | ⟨h, h1, h2⟩
            · rw [h]; exact ⟨w3, l.trans l3, g3, d3⟩
            · rw [h]; exact ⟨_, cutw (l.trans l3), h2, d3⟩
          · cases h
            exact ⟨w', l, g', hv⟩
        · cases h
          exact ⟨w', l, g', hv⟩
/-- a def that may be called by its name -/
structure Fn (P : Program) (w : World) (K : PySem.W.Frag) (mg : Str → Option Value) (base : Heap) (k : Nat) (x : Str) (F : FA) : Prop where
  ex : ∃ (f : Addr) (fd : FuncData) (ps : List Str), FnOk P w K mg base CX0 k f fd ps (spN ⟨P, w, K⟩ F) ∧ mg x = some (.ref f) ∧ PySem.W.keepIn K (.ref f) = true ∧ Binds K fd ps []
theorem VRs.start {B : Ba} {w : W} : ∀ {vs : List V} {ds : List D} (n : Nat), VRs B w vs ds → Sl B w (ds.map some ++ List.replicate n none) (vs.map some ++ List.replicate n none) := fun {vs ds} n h => ⟨by simp [h.len], fun i d q => by
  by_cases hi : i < (ds.map some).length
  · rw [List.getElem?_append_left hi, List.getElem?_map] at q
    obtain ⟨d', h1, h2⟩ := Option.map_eq_some_iff.mp q
    cases h2
    obtain ⟨v, h3, h4⟩ := h.get h1
    exact ⟨v, by rw [List.getElem?_append_left (by rw [List.length_map, h.len]; simpa using hi), List.getElem?_map, h3]; rfl, h4⟩
  · rw [List.getElem?_append_right (by omega), List.getElem?_replicate] at q
    split at q <;> cases q⟩
theorem nfun {P : Program} {w : World} {K : PySem.W.Frag} {mg : Str → Option Value} {base : Heap} {x : Str} {st : Stmt} {ps N : List Str} {k : Nat} {own : Bool} {M : MS} (DD : Dfn K mg x st ps) (S : FnScope N ps (defScope st))
    (body : ∀ (f : Addr) (cdv : Value) (A : Around) (outer : List Env) (s : Shared) (H : Hp) (E : XK), Room k (A.deeper (envOfC x (defScope st) s.heap.objs.size f cdv)) →
      NSs (cxOf CX0 P w K mg base N x (defScope st) f cdv A outer s H E).nox (defBody st) M) : Fn P w K mg base (k + 1) x (fnR ps.length N.length own M) := by
  obtain ⟨f, fd, F, hm, hb⟩ := DD.ex
  have len : ∀ {s : Sto} {ds : List D} {d : D} {s' : Sto}, fnR ps.length N.length own M s ds = some (d, s') → ds.length = ps.length := fun {s ds d s'} h => by
    unfold fnR at h
    split at h
    · assumption
    · cases h
  refine ⟨f, fd, ps, F.ok S (fun vs H Q E ⟨w, ds, s, d, s', g, hv, h, _⟩ => by rw [hv.len]; exact len h) (fun cdv A outer sh H vs Q E hr ⟨w, ds, s, d, s', g, hv, h, k⟩ => ?_), hm, F.kp, hb⟩
  have hl := len h
  have go : ∀ fl e1 s1 d0, M (ds.map some ++ List.replicate (N.length - ps.length) none) s = some (fl, e1, s1) → ret own s d0 s1 = some (d, s') → (fl = .rt d0 ∨ (fl = .nx ∧ d0 = .d .none)) → ∃ t, PSs (cxOf CX0 P _ K mg base N x (defScope st) f cdv A outer sh H E).nox (defBody st) t ∧ t { nx := fun _ H' => Q .non H', rt := Q } (start N vs) H := fun fl e1 s1 d0 h1 h2 h3 => by
    refine ⟨_, body f cdv A outer sh H E hr _ _ _ _ _ s.length h1 (Nat.le_refl _), w, g, ?_, ?_⟩
    · show Sl _ w _ (vs.map some ++ List.replicate (N.length - vs.length) none)
      rw [hv.len, hl]
      exact VRs.start _ hv
    · rcases h3 with rfl | ⟨rfl, rfl⟩
      · exact fun w' v H' l g' v' => by
          obtain ⟨w2, l2, g2, v2⟩ := ret_ok h2 g (W.le.of_take l g.lr) g' v'
          exact k v w2 H' l2 g2 v2
      · exact fun w' σ' H' l g' sl => by
          obtain ⟨w2, l2, g2, v2⟩ := ret_ok h2 g (W.le.of_take l g.lr) g' vn
          exact k .non w2 H' l2 g2 v2
  unfold fnR at h
  rw [if_pos hl] at h
  split at h
  · rename_i d0 e1 s1 e0
    exact go _ _ _ _ e0 h (.inl rfl)
  · rename_i e1 s1 e0
    exact go _ _ _ _ e0 h (.inr ⟨rfl, rfl⟩)
  · cases h
/-- nothing is promised -/
theorem nfun_none {P : Program} {w : World} {K : PySem.W.Frag} {mg : Str → Option Value} {base : Heap} {x : Str} {st : Stmt} {ps N : List Str} {k : Nat} (DD : Dfn K mg x st ps) (S : FnScope N ps (defScope st)) : Fn P w K mg base (k + 1) x (fun _ _ => none) := by
  obtain ⟨f, fd, F, hm, hb⟩ := DD.ex
  exact ⟨f, fd, ps, F.ok S (fun vs H Q E ⟨w, ds, s, d, s', g, hv, h, _⟩ => by cases h) (fun cdv A outer sh H vs Q E hr ⟨w, ds, s, d, s', g, hv, h, k⟩ => by cases h), hm, F.kp, hb⟩
theorem Fn.mono {P : Program} {w : World} {K : PySem.W.Frag} {mg : Str → Option Value} {base : Heap} {x : Str} {F : FA} {k j : Nat} (c : Fn P w K mg base k x F) (h : k ≤ j) : Fn P w K mg base j x F := let ⟨f, fd, ps, F, r⟩ := c.ex; ⟨f, fd, ps, F.mono h, r⟩
theorem n_call {F : FA} {x : Str} {k j : Nat} (c : Fn X.prog X.w X.K X.mg X.base k x F) (ha : NA X (ex :: es) ms) (hr : Room j X.A) (hk : k ≤ j := by omega) (cl : Cl X x ex es pos := by exact ⟨rfl, rfl, rfl⟩) (hdb : (x == ("__debug__" : Str)) = false := by decide) : NE X (.Call (.Name x p) (ex :: es) [] pos) (eCall F ms) := fun e s z s' h => by
  obtain ⟨ds, s1, e1, e2⟩ := call_cases h
  obtain ⟨f, fd, ps, FF, hm, kp, b⟩ := c.ex
  refine PE.imp (pe_call FF (hr.mono hk) cl.1 hm kp b .nil pass0 (ha _ _ _ _ e1) hdb cl.2.1 cl.2.2) fun σ H Q ⟨w, g, l, q⟩ => ⟨w, g, l, fun vs w1 H1 l1 g1 v1 => ?_⟩
  show spN _ F (vs ++ []) H1 Q E0
  rw [List.append_nil]
  exact ⟨w1, ds, s1, z, s', g1, v1, e2, fun v w2 H2 l2 g2 v2 => q v w2 H2 (l1.trans l2) g2 v2⟩
end
end N

namespace N
open PySem L2 PyProof.Rows
open Z (Ext dpUp dpsUp dpsLen dpsGet DxO KyD DEn Cl cut offv bl Dfn)
section
variable {X : Cx} {ex a b c tg iter elt : Expr} {es ifs : List Expr} {st : Stmt} {rest body orelse : List Stmt} {m ma mb mc : ME} {ms : MA} {mt mu : MT} {pos p : Pos} {M M1 M2 : MS}

/-! ### methods of lists -/
/-- a method of a list of the store: what it does to the list, what it answers -/
abbrev FM := Sto → List D → List D → Option (List D × D)
def eMeth (f : FM) (ma : ME) (ms : MA) : ME := fun e s => match ma e s with
  | some (.r j, s1) => match s1[j]? with
    | some (.lst _) => match ms e s1 with
      | some (ds, s2) => match s2[j]? with
        | some (.lst xs) => match f s2 xs ds with
          | some (ys, z) => some (z, s2.set j (.lst ys))
          | none => none
        | _ => none
      | none => none
    | _ => none
  | _ => none
def MetS (X : Cx) (id : String) (f : FM) : Prop := ∀ s xs ds ys z, f s xs ds = some (ys, z) → ∃ q, MtR X id q ∧ ∀ p vs us w H (Q : VK), Ok (ba X) w s H → H p = some (.lst vs) → VRs (ba X) w vs xs → VRs (ba X) w us ds → (∀ vs' v, VRs (ba X) w vs' ys → VR (ba X) w v z → Q v (upd H p (.lst vs'))) → q (.ref p) us H Q
theorem meth_cases {f : FM} {e : Lo} {s s' : Sto} {z : D} (h : eMeth f ma ms e s = some (z, s')) : ∃ j s1 x1 ds s2 xs ys, ma e s = some (.r j, s1) ∧ s1[j]? = some (.lst x1) ∧ ms e s1 = some (ds, s2) ∧ s2[j]? = some (.lst xs) ∧ f s2 xs ds = some (ys, z) ∧ s' = s2.set j (.lst ys) := by
  unfold eMeth at h
  split at h
  · rename_i j s1 e1
    split at h
    · rename_i x1 e2
      split at h
      · rename_i ds s2 e3
        split at h
        · rename_i xs e4
          split at h
          · rename_i ys zz e5
            cases h
            exact ⟨j, s1, x1, ds, s2, xs, ys, e1, e2, e3, e4, e5, rfl⟩
          · cases h
        · cases h
      · cases h
    · cases h
  · cases h
theorem n_meth {f : FM} {id : String} {name : Str} {apos : Pos} (hf : MetS X id f) (ha : NE X a ma) (hs : NA X (ex :: es) ms) (slot : Slot "list" name id) (hty : typeOf (.builtin id) = pure (.type "method_descriptor"))
    (hbase : attributeBase a name X.env (eval a X.env) = eval a X.env := by rfl)
    (hfew : ((backTo pos (starEach (ex :: es) X.env)).all (fun x => !x.1) && (backToKw pos (keywordEach [] X.env)).all (fun x => x.1.isSome)
      && decide ((ex :: es).length + ([] : List Keyword).length + (if ([] : List Keyword).isEmpty then 0 else 1) < 30)) = true := by rfl)
    (hline : (apos.endLine == pos.line) = true := by rfl) (hst : starEach (ex :: es) X.env = (false, eval ex X.env) :: starEach es X.env := by rfl) (hplain : (backTo pos (starEach es X.env)).any (·.1) = false := by rfl) :
    NE X (.Call (.Attribute a name apos) (ex :: es) [] pos) (eMeth f ma ms) := fun e s z s' h => by
  obtain ⟨j, s1, x1, ds, s2, xs, ys, e1, e2, e3, e4, e5, rfl⟩ := meth_cases h
  obtain ⟨q, hq, run⟩ := hf _ _ _ _ _ e5
  refine PE.imp (pe_bm PySem.F.plainAttrs_list slot hty hq (ha _ _ _ _ e1) (hs _ _ _ _ e3) hbase hfew hline hst hplain) fun σ H Q ⟨w, g, l, k⟩ => ⟨w, g, l, fun v w1 H1 l1 g1 v1 => ?_⟩
  obtain ⟨p1, vs1, rfl, h1, _, _⟩ := chg_lst g1 v1 e2
  refine ⟨.inl ⟨rfl, vs1, .of h1⟩, w1, g1, l.up l1, fun us w2 H2 l2 g2 v2 => ?_⟩
  obtain ⟨p2, vs2, ep, h2, h3, h4⟩ := chg_lst g2 (v1.up l2) e4
  cases ep
  exact run _ vs2 us w2 H2 Q g2 h2 h3 v2 fun vs' v hv' hv => k v w2 _ (l1.trans l2) (h4 _ _ hv') hv
theorem n_meth0 {f : FM} {id : String} {name : Str} {apos : Pos} (hf : MetS X id f) (ha : NE X a ma) (slot : Slot "list" name id) (hty : typeOf (.builtin id) = pure (.type "method_descriptor"))
    (hbase : attributeBase a name X.env (eval a X.env) = eval a X.env := by rfl) (hline : (apos.endLine == pos.line) = true := by rfl) :
    NE X (.Call (.Attribute a name apos) [] [] pos) (eMeth f ma aNil) := fun e s z s' h => by
  obtain ⟨j, s1, x1, ds, s2, xs, ys, e1, e2, e3, e4, e5, rfl⟩ := meth_cases h
  cases e3
  obtain ⟨q, hq, run⟩ := hf _ _ _ _ _ e5
  refine PE.imp (pe_bm0 PySem.F.plainAttrs_list slot hty hq (ha _ _ _ _ e1) hbase hline) fun σ H Q ⟨w, g, l, k⟩ => ⟨w, g, l, fun v w1 H1 l1 g1 v1 => ?_⟩
  obtain ⟨p1, vs1, rfl, h1, h3, h4⟩ := chg_lst g1 v1 e4
  exact ⟨.inl ⟨rfl, vs1, .of h1⟩, run _ vs1 [] w1 H1 Q g1 h1 h3 trivial fun vs' v hv' hv => k v w1 _ l1 (h4 _ _ hv') hv⟩
def fApp : FM := fun _ xs ds => match ds with
  | [d] => if xs.length < lim then some (xs ++ [d], .d .none) else none
  | _ => none
theorem f_app : MetS X "list.append" fApp := fun s xs ds ys z h => by
  unfold fApp at h
  split at h
  · rename_i d
    split at h
    · rename_i hl
      cases h
      refine ⟨_, mt_append, fun p vs us w H Q g hp hv hu k => ?_⟩
      obtain ⟨u, rfl, hu1⟩ := vrs1 hu
      exact ⟨p, vs, u, rfl, rfl, hp, by rw [hv.len]; exact Nat.lt_trans hl lim_lt, k _ _ (hv.app ⟨hu1, trivial⟩) vn⟩
    · cases h
  · cases h
def fExt : FM := fun s xs ds => match ds with
  | [d] => match asL s d with
    | some es => if xs.length + es.length ≤ lim then some (xs ++ es, .d .none) else none
    | none => none
  | _ => none
theorem f_ext : MetS X "list.extend" fExt := fun s xs ds ys z h => by
  unfold fExt at h
  split at h
  · rename_i d
    split at h
    · rename_i es e1
      split at h
      · rename_i hl
        cases h
        refine ⟨_, Z.mt_extQ, fun p vs us w H Q g hp hv hu k => ?_⟩
        obtain ⟨u, rfl, hu1⟩ := vrs1 hu
        obtain ⟨p2, zs, rfl, q2, r2⟩ := asL_ok e1 g hu1
        exact ⟨p, p2, vs, zs, rfl, rfl, hp, q2, by rw [hv.len, r2.len]; exact Nat.le_trans hl (Nat.le_of_lt lim_lt), k _ _ (hv.app r2) vn⟩
      · cases h
    · cases h
  · cases h
def fPop : FM := fun _ xs ds => match ds with
  | [] => match xs[xs.length - 1]? with
    | some y => some (xs.dropLast, y)
    | none => none
  | _ => none
theorem VRs.dropLast {B : Ba} {w : W} : ∀ {vs : List V} {ds : List D}, VRs B w vs ds → VRs B w vs.dropLast ds.dropLast := fun {vs ds} h => by
  rw [List.dropLast_eq_take, List.dropLast_eq_take, h.len]
  exact h.take _
theorem f_pop : MetS X "list.pop" fPop := fun s xs ds ys z h => by
  unfold fPop at h
  split at h
  · split at h
    · rename_i y e1
      cases h
      refine ⟨_, mt_pop, fun p vs us w H Q g hp hv hu k => ?_⟩
      cases us with
      | cons => exact hu.elim
      | nil =>
        obtain ⟨v, h1, h2⟩ := hv.get e1
        exact ⟨p, vs, v, rfl, rfl, hp, by rw [hv.len]; exact h1, k _ _ hv.dropLast h2⟩
    · cases h
  · cases h
def fPopAt : FM := fun _ xs ds => match ds with
  | [.d (.int i)] => if -(2 ^ 63) ≤ i ∧ i < 2 ^ 63 then match seqIndex? i xs.length with
    | some k => match xs[k]? with
      | some y => some (xs.eraseIdx k, y)
      | none => none
    | none => none
    else none
  | _ => none
theorem f_popAt : MetS X "list.pop" fPopAt := fun s xs ds ys z h => by
  unfold fPopAt at h
  split at h
  · rename_i i
    split at h
    · rename_i hi
      split at h
      · rename_i kk e0
        split at h
        · rename_i y e1
          cases h
          refine ⟨_, mt_popAt, fun p vs us w H Q g hp hv hu k => ?_⟩
          obtain ⟨u, rfl, hu1⟩ := vrs1 hu
          cases vr_int hu1
          obtain ⟨v, h1, h2⟩ := hv.get e1
          exact ⟨p, vs, i, kk, v, rfl, rfl, hp, hi.1, hi.2, by rw [hv.len]; exact e0, h1, k _ _ (hv.eraseIdx kk) h2⟩
        · cases h
      · cases h
    · cases h
  · cases h

/-! ### dicts whose keys are tuples -/
def eDic : ME := fun _ s => some (.r s.length, s ++ [.dic []])
theorem n_dic : NE X (.Dict [] [] pos) eDic := fun e s d s' h => by
  cases h
  refine PE.imp Z.pe_newX fun σ H Q ⟨w, g, l, k⟩ => fun p hp => ?_
  exact k _ _ _ Ok.new_le (g.new hp ⟨ext_none g.ext hp, [], upd_same, trivial⟩) g.new_at
theorem inq_cases {neg : Bool} {x : PyData} {ds : List PyData} {k : Bool} (h : cInQ neg x ds = some k) : PyData.plainAll ds = true ∧ x.plain = true ∧ min (PyData.depthAll ds) x.depth ≤ 60 ∧ k = (if neg then !(ds.any fun z => PyData.eqv z x) else ds.any fun z => PyData.eqv z x) := by
  unfold cInQ at h
  split at h
  · rename_i hc
    cases h
    exact ⟨hc.1, hc.2.1, hc.2.2, rfl⟩
  · cases h
theorem cIn_ok {op : CmpOp} {neg : Bool} (h1 : OpR X (compareOp op) (Z.rInZ X.K X.A.units neg)) (h2 : OpR X (compareOp op) (Z.rInX X neg)) (hu : X.A.units + 64 < cLine) {s : Sto} {a b : D} {k : Bool} (e : cIn neg s a b = some k) (ndk : ∀ j kvs, b = .r j → s[j]? ≠ some (.dk kvs)) :
    ∃ q, OpR X (compareOp op) q ∧ BiN (ba X) q s a b (.d (.bool k)) s := by
  have seq : ∀ {c : PyData} {ds : List PyData} {x : PyData}, pd s b = some c → (c = .list ds ∨ c = .tuple ds) → pd s a = some x → cInQ neg x ds = some k → ∃ q, OpR X (compareOp op) q ∧ BiN (ba X) q s a b (.d (.bool k)) s := fun {c ds x} hb hc ha hq => by
    obtain ⟨p1, p2, p3, rfl⟩ := inq_cases hq
    refine ⟨_, h1, fun u v w H Q g v1 v2 q => ⟨x, c, ds, pd_ok ha g v1, pd_ok hb g v2, hc, p1, p2, by show X.A.units + 1 + _ < _; omega, q _ w H (W.le.refl w) g vb⟩⟩
  unfold cIn at e
  split at e
  · split at e
    · rename_i x e1
      exact seq rfl (.inr rfl) e1 e
    · cases e
  · split at e
    · rename_i x e1
      exact seq rfl (.inl rfl) e1 e
    · cases e
  · rename_i j
    split at e
    · rename_i ds e1
      split at e
      · rename_i xs e2
        split at e
        · rename_i x e3
          refine seq (c := .list xs) ?_ (.inl rfl) e3 e
          show (match s[j]? with
            | some (.lst ds) => match data ds with
              | some xs => some (PyData.list xs)
              | none => none
            | _ => none) = _
          rw [e1]
          simp only [e2]
        · cases e
      · cases e
    · rename_i kvs e1
      split at e
      · rename_i x
        split at e
        · rename_i hk
          cases e
          refine ⟨_, h2, fun u v w H Q g v1 v2 q => ?_⟩
          obtain ⟨b1, rfl, kb⟩ := key_ok hk v1
          obtain ⟨p1, hp1, rfl⟩ := v2
          obtain ⟨_, xs, q1, q2⟩ := g.ce _ _ p1 e1 hp1
          refine ⟨p1, b1, xs, x, rfl, rfl, q1, q2.ky g.ext, ⟨dpUp g.ext _ _ kb.1, kb.2⟩, ?_⟩
          rw [q2.has]
          exact q _ w H (W.le.refl w) g vb
        · cases e
      · cases e
    · rename_i kvs e1
      exact absurd e1 (ndk j kvs rfl)
    · cases e
  · cases e
/-- x in: not for dicts with ints and texts as keys -/
noncomputable def cInX (neg : Bool) : FC := fun s a b => match b with
  | .r j => match s[j]? with
    | some (.dk _) => none
    | _ => cIn neg s a b
  | _ => cIn neg s a b
theorem inx {neg : Bool} {s : Sto} {a b : D} {k : Bool} (h : cInX neg s a b = some k) : cIn neg s a b = some k ∧ ∀ j kvs, b = .r j → s[j]? ≠ some (.dk kvs) := by
  unfold cInX at h
  split at h
  · rename_i j
    split at h
    · cases h
    · rename_i hn
      exact ⟨h, fun j' kvs e q => by cases e; exact hn kvs q⟩
  · rename_i hn
    exact ⟨h, fun j' kvs e q => hn j' e⟩
theorem c_in (hu : X.A.units + 64 < cLine) : CmpS X .In (cInX false) := fun s a b k e => cIn_ok Z.op_inZ (Z.op_inX (by omega)) hu (inx e).1 (inx e).2
theorem c_nin (hu : X.A.units + 64 < cLine) : CmpS X .NotIn (cInX true) := fun s a b k e => cIn_ok Z.op_ninZ (Z.op_ninX (by omega)) hu (inx e).1 (inx e).2
noncomputable def dGet (kvs : List (PyData × D)) (x : PyData) : Option D := (kvs.find? fun kv => decide (kv.1 = x)).map (·.2)
theorem DR.get {B : Ba} {w : W} {x : PyData} {d : D} : ∀ {xs : List DEn} {kvs : List (PyData × D)}, DR B w xs kvs → dGet kvs x = some d → ∃ c u v, atKey xs x = some (c, u) ∧ RelV v u ∧ VR B w v d
  | [], [], _, h => by cases h
  | e :: xs, kv :: kvs, ⟨⟨h1, h2, vv, h4, h5⟩, h6⟩, h => by
    unfold dGet at h
    unfold atKey
    rw [List.find?_cons] at h ⊢
    by_cases hk : kv.1 = x
    · rw [h1]
      simp only [hk, decide_true] at h ⊢
      cases h
      exact ⟨_, _, vv, rfl, h4, h5⟩
    · rw [h1]
      simp only [hk, decide_false] at h ⊢
      exact DR.get h6 h
  | [], _ :: _, h, _ => h.elim
  | _ :: _, [], h, _ => h.elim
/-- d[k] for dicts with tuples as keys; else an item -/
noncomputable def eIxD (ma mb : ME) : ME := eBin (fun s a b => match a, b with
  | .r j, .d x => match s[j]? with
    | some (.dic kvs) => if isKey x then match dGet kvs x with
        | some d => some (d, s)
        | none => none
      else none
    | _ => none
  | _, _ => none) ma mb
theorem n_ixD (hu : X.A.units + 64 < cLine) (ha : NE X a ma) (hb : NE X b mb) (hs : PlainIx b := by intro _ _; rfl) : NE X (.Subscript a b pos) (eIxD ma mb) := fun e s z s' h => by
  obtain ⟨x, s1, y, s2, e1, e2, e3⟩ := bin_cases h
  split at e3
  · rename_i j x
    split at e3
    · rename_i kvs e4
      split at e3
      · rename_i hk
        split at e3
        · rename_i d e5
          cases e3
          refine PE.imp (pe_ix (Z.ix_X (by omega)) (ha _ _ _ _ e1) (hb _ _ _ _ e2) hs) (bi_run fun u v w H Q g v1 v2 q => ?_)
          obtain ⟨b1, rfl, kb⟩ := key_ok hk v2
          obtain ⟨p1, hp1, rfl⟩ := v1
          obtain ⟨_, xs, q1, q2⟩ := g.ce _ _ p1 e4 hp1
          obtain ⟨c, uu, vv, h5, h6, h7⟩ := q2.get e5
          exact ⟨p1, b1, xs, x, c, uu, vv, rfl, rfl, q1, q2.ky g.ext, ⟨dpUp g.ext _ _ kb.1, kb.2⟩, h5, h6, q vv w H (W.le.refl w) g h7⟩
        · cases e3
      · cases e3
    · cases e3
  · cases e3
/-- d[k] = v -/
noncomputable def dPut (kvs : List (PyData × D)) (x : PyData) (d : D) : List (PyData × D) := if dHas kvs x then kvs.map fun kv => if kv.1 = x then (kv.1, d) else kv else kvs ++ [(x, d)]
theorem DR.len {B : Ba} {w : W} : ∀ {xs : List DEn} {kvs : List (PyData × D)}, DR B w xs kvs → xs.length = kvs.length
  | [], [], _ => rfl
  | v :: vs, d :: ds, ⟨h1, h2⟩ => by simp [DR.len h2]
  | [], _ :: _, h => h.elim
  | _ :: _, [], h => h.elim
theorem DR.map {B : Ba} {w : W} {x : PyData} {d : D} {u : Value} {v : V} (hu : RelV v u) (hv : VR B w v d) : ∀ {xs : List DEn} {kvs : List (PyData × D)}, DR B w xs kvs → DR B w (xs.map (putAt x u)) (kvs.map fun kv => if kv.1 = x then (kv.1, d) else kv)
  | [], [], _ => trivial
  | e :: xs, kv :: kvs, ⟨⟨h1, h2, h3⟩, h⟩ => by
    refine ⟨?_, DR.map hu hv h⟩
    unfold putAt
    by_cases hk : kv.1 = x
    · rw [if_pos (by rw [h1]; simpa using hk)]
      dsimp only
      rw [if_pos hk]
      exact ⟨h1, h2, v, hu, hv⟩
    · rw [if_neg (by rw [h1]; simpa using hk)]
      dsimp only
      rw [if_neg hk]
      exact ⟨h1, h2, h3⟩
  | [], _ :: _, h => h.elim
  | _ :: _, [], h => h.elim
theorem DR.app {B : Ba} {w : W} {e : DEn} {kv : PyData × D} (he : e.1 = kv.1 ∧ KyD B.K w.F e.2.1 e.1 ∧ ∃ vv, RelV vv e.2.2 ∧ VR B w vv kv.2) : ∀ {xs : List DEn} {kvs : List (PyData × D)}, DR B w xs kvs → DR B w (xs ++ [e]) (kvs ++ [kv])
  | [], [], _ => ⟨he, trivial⟩
  | _ :: _, _ :: _, ⟨h1, h⟩ => ⟨h1, DR.app he h⟩
  | [], _ :: _, h => h.elim
  | _ :: _, [], h => h.elim
theorem DR.put {B : Ba} {w : W} {x : PyData} {d : D} {b : Addr} {u : Value} {v : V} {xs : List DEn} {kvs : List (PyData × D)} (h : DR B w xs kvs) (kb : KyD B.K w.F b x) (hu : RelV v u) (hv : VR B w v d) : DR B w (storedH xs x b u) (dPut kvs x d) := by
  unfold storedH dPut
  rw [h.has]
  split
  · exact h.map hu hv
  · exact h.app ⟨rfl, kb, v, hu, hv⟩
noncomputable def sPutD (ma mi mv : ME) : MS := fun e s => match mv e s with
  | some (d, s1) => match ma e s1 with
    | some (.r j, s2) => match mi e s2 with
      | some (.d x, s3) => match s3[j]? with
        | some (.dic kvs) => if isKey x ∧ kvs.length < lim then some (.nx, e, s3.set j (.dic (dPut kvs x d))) else none
        | _ => none
      | _ => none
    | _ => none
  | none => none
theorem ns_putD {tpos : Pos} {mi mv : ME} (hu : X.A.units + 64 < cLine) (hv : NE X ex mv) (ha : NE X a ma) (hi : NE X b mi)
    (hsub : ∀ v, assign (.Subscript a b tpos) X.env v = (do
      let ov ← holding [v] (eval a X.env)
      let iv ← holding [v, ov] (eval b X.env)
      standAt tpos
      holding [v, ov, iv] (setItem ov iv v)
      release [v, ov, iv] []) := by intro _; rfl)
    (hs : swapsWithSole [.Subscript a b tpos] ex pos.line X.env = pure false := by rfl) (hw : swappedStores [.Subscript a b tpos] ex X.env = pure none := by rfl) (h1 : (assignEach [.Subscript a b tpos] X.env).map (·.2) = [assign (.Subscript a b tpos) X.env] := by rfl) :
    NS X (.Assign [.Subscript a b tpos] ex pos) (sPutD ma mi mv) := fun e s fl e' s' bb hm hb => by
  unfold sPutD at hm
  split at hm
  · rename_i d s1 e1
    split at hm
    · rename_i j s2 e2
      split at hm
      · rename_i x s3 e3
        split at hm
        · rename_i kvs e4
          split at hm
          · rename_i hk
            cases hm
            refine Z.PS.imp (ps_asg (hv _ _ _ _ e1) (pg_sub (ha _ _ _ _ e2) (hi _ _ _ _ e3) (Z.put_X (by omega)) hsub) hs hw h1) fun Dn σ H ⟨w, g, l, k⟩ => ⟨w, g, l, fun v w1 H1 l1 g1 v1 => ⟨w1, g1, l.up l1, fun u w2 H2 l2 g2 v2 => ⟨w2, g2, (l.up l1).up l2, fun z w3 H3 l3 g3 v3 => ?_⟩⟩⟩
            obtain ⟨b1, rfl, kb⟩ := key_ok hk.1 v3
            obtain ⟨p1, hp1, rfl⟩ := v2.up l3
            obtain ⟨hF, xs, q1, q2⟩ := g3.ce _ _ p1 e4 hp1
            refine ⟨p1, b1, xs, x, rfl, rfl, q1, q2.ky g3.ext, ⟨dpUp g3.ext _ _ kb.1, kb.2⟩, ⟨xs.map (·.1), by rw [List.length_map, q2.len]; exact Nat.lt_trans hk.2 lim_lt, fun e he => List.mem_map.mpr ⟨e, he, rfl⟩⟩, fun uu hu => ?_⟩
            exact k w3 σ _ (((l1.trans l2).trans l3).cut bb) (g3.chg hp1 hF ⟨hF, _, upd_same, q2.put kb hu ((v1.up l2).up l3)⟩) (((l.up l1).up l2).up l3)
          · cases hm
        · cases hm
      · cases hm
    · cases hm
  · cases hm
end
end N

namespace N
open PySem L2 PyProof.Rows
open Z (Ext dpUp dpsUp dpsLen dpsGet DxO KyD DEn Cl cut offv bl Dfn)
section
variable {X : Cx} {ex a b c tg iter elt : Expr} {es ifs : List Expr} {st : Stmt} {rest body orelse : List Stmt} {m ma mb mc : ME} {ms : MA} {mt mu : MT} {pos p : Pos} {M M1 M2 : MS}
/-- an item of whatever it is -/
noncomputable def gIxU (s : Sto) (a b : D) : Option D := match b with
  | .d (.int i) => gIx s a i
  | .d x => match a with
    | .r j => match s[j]? with
      | some (.dic kvs) => if isKey x then dGet kvs x else none
      | _ => none
    | _ => none
  | _ => none
noncomputable def eItem (ma mb : ME) : ME := eBin (fun s a b => match gIxU s a b with
  | some d => some (d, s)
  | none => none) ma mb
theorem n_item (hu : X.A.units + 64 < cLine) (ha : NE X a ma) (hb : NE X b mb) (hs : PlainIx b := by intro _ _; rfl) : NE X (.Subscript a b pos) (eItem ma mb) := fun e s z s' h => by
  obtain ⟨x, s1, y, s2, e1, e2, e3⟩ := bin_cases h
  split at e3
  · rename_i d e4
    cases e3
    unfold gIxU at e4
    split at e4
    · rename_i i
      refine n_ix ha hb hs e s z s' ?_
      unfold eIx eBin
      simp only [e1, e2, e4]
    · rename_i y' _
      split at e4
      · rename_i j
        split at e4
        · rename_i kvs e5
          split at e4
          · rename_i hk
            refine n_ixD hu ha hb hs e s z s' ?_
            unfold eIxD eBin
            simp only [e1, e2, e5, hk, e4, if_true]
          · cases e4
        · cases e4
      · cases e4
    · cases e4
  · cases e3
/-- a store to an item of whatever it is -/
noncomputable def sPutU (ma mi mv : ME) : MS := fun e s => match sPut ma mi mv e s with
  | some r => some r
  | none => sPutD ma mi mv e s
theorem ns_putU {tpos : Pos} {mi mv : ME} (hu : X.A.units + 64 < cLine) (hv : NE X ex mv) (ha : NE X a ma) (hi : NE X b mi)
    (hsub : ∀ v, assign (.Subscript a b tpos) X.env v = (do
      let ov ← holding [v] (eval a X.env)
      let iv ← holding [v, ov] (eval b X.env)
      standAt tpos
      holding [v, ov, iv] (setItem ov iv v)
      release [v, ov, iv] []) := by intro _; rfl)
    (hs : swapsWithSole [.Subscript a b tpos] ex pos.line X.env = pure false := by rfl) (hw : swappedStores [.Subscript a b tpos] ex X.env = pure none := by rfl) (h1 : (assignEach [.Subscript a b tpos] X.env).map (·.2) = [assign (.Subscript a b tpos) X.env] := by rfl) :
    NS X (.Assign [.Subscript a b tpos] ex pos) (sPutU ma mi mv) := fun e s fl e' s' bb hm hb => by
  unfold sPutU at hm
  split at hm
  · rename_i r e1
    cases hm
    exact ns_put hv ha hi hsub hs hw h1 _ _ _ _ _ _ e1 hb
  · exact ns_putD hu hv ha hi hsub hs hw h1 _ _ _ _ _ _ hm hb

/-! ### the law's head -/
def spE (K : PySem.W.Frag) : Sp := fun vs H Q _ => ∃ a ns, List.length ns ≤ 63 ∧ vs = [.ref a] ∧ SqL K H a (ns.map V.int) ∧ ∀ H', Q (.bl true) H'
theorem head_ok {K : PySem.W.Frag} {H : Hp} {a : Addr} {ns : List Int} (hl : ns.length ≤ 63) (hS : SqL K H a (ns.map V.int)) : spE K [.ref a] H (fun v _ => v = .bl true) fun _ _ _ => False := ⟨a, ns, hl, rfl, hS, fun _ => rfl⟩
theorem law_fn {P : Program} {w : World} {K : PySem.W.Frag} {mg : Str → Option Value} {base : Heap} {x : Str} {st : Stmt} {N : List Str} {k : Nat} {M : MS} {f : Addr} {fd : FuncData} (F : Fun K x x st f fd) (S : FnScope N ["script"] (defScope st))
    (body : ∀ (f : Addr) (cdv : Value) (A : Around) (outer : List Env) (s : Shared) (H : Hp) (E : XK), Room k (A.deeper (envOfC x (defScope st) s.heap.objs.size f cdv)) →
      NSs (cxOf CX0 P w K mg base N x (defScope st) f cdv A outer s H E).nox (defBody st) M)
    (run : ∀ ns : List Int, ns.length ≤ 63 → ∃ s', fnR 1 N.length false M [] [.d (.list (ns.map .int))] = some (.d (.bool true), s')) : FnOk P w K mg base CX0 (k + 1) f fd ["script"] (spE K) := by
  refine F.ok S (fun vs H Q E ⟨a, ns, hl, e, _⟩ => by rw [e]; rfl) (fun cdv A outer sh H vs Q E hr ⟨a, ns, hl, e, hS, q⟩ => ?_)
  subst e
  obtain ⟨s', h⟩ := run ns hl
  have g : Ok ⟨P, w, K⟩ ⟨H, []⟩ [] H := ⟨Ext.refl _, rfl, List.nodup_nil, fun a h => by simp at h, fun j c a h => by simp at h⟩
  have hv : VRs ⟨P, w, K⟩ ⟨H, []⟩ [.ref a] [.d (.list (ns.map .int))] := ⟨.lst hS (Z.dps_of_ints K H ns), trivial⟩
  have go : ∀ fl e1 s1 d0, M ([D.d (.list (ns.map .int))].map some ++ List.replicate (N.length - 1) none) [] = some (fl, e1, s1) → ret false [] d0 s1 = some (.d (.bool true), s') → (fl = .rt d0 ∨ (fl = .nx ∧ d0 = .d .none)) → ∃ t, PSs (cxOf CX0 P _ K mg base N x (defScope st) f cdv A outer sh H E).nox (defBody st) t ∧ t { nx := fun _ H' => Q .non H', rt := Q } (start N [.ref a]) H := fun fl e1 s1 d0 h1 h2 h3 => by
    refine ⟨_, body f cdv A outer sh H E hr _ _ _ _ _ 0 h1 (Nat.zero_le _), ⟨H, []⟩, g, VRs.start _ hv, ?_⟩
    rcases h3 with rfl | ⟨rfl, rfl⟩
    · exact fun w' v H' l g' v' => by
        obtain ⟨w2, l2, g2, v2⟩ := ret_ok h2 g (W.le.of_take l g.lr) g' v'
        cases vr_bl v2
        exact q H'
    · exact fun w' σ' H' l g' sl => by
        obtain ⟨w2, l2, g2, v2⟩ := ret_ok h2 g (W.le.of_take l g.lr) g' vn
        cases v2
  unfold fnR at h
  rw [if_pos (show List.length [D.d (PyData.list (List.map PyData.int ns))] = 1 from rfl)] at h
  split at h
  · rename_i d0 e1 s1 e0
    exact go _ _ _ _ e0 h (.inl rfl)
  · rename_i e1 s1 e0
    exact go _ _ _ _ e0 h (.inr ⟨rfl, rfl⟩)
  · cases h
end
end N

namespace N
open PySem L2 PyProof.Rows
open Sem (wp)
open AutoSeq1 (wpAny_loadPart')
/-! ### enumerate over a tuple -/
theorem meets_enumerate_newT (l : Addr) (items : Array Value) (n : Nat) (dct : Option Addr) (sl : Array (Option Value)) :
    Meets (Builtin.«enumerate.__new__» ⟨[.type "enumerate", .ref l], []⟩) (fun _ R s => s.heap.get? l = some { cls := .type "tuple", dict := dct, data := .seq items n, slots := sl } ∧
      R (.ok (.ret (.ref (s.heap.push { cls := .type "tuple_iterator", data := .fields #[.ref l, .int 0 0] }).objs.size)))
        { s with heap := (s.heap.push { cls := .type "tuple_iterator", data := .fields #[.ref l, .int 0 0] }).push { cls := .type "enumerate", data := .fields #[.none, .bool false, .ref s.heap.objs.size, rawInt 0, .none, .none] } }) :=
  .of_wp fun prog w A R s h => by
    obtain ⟨hp, g, d, tk, os⟩ := s; obtain ⟨hl, h⟩ := h
    have hsub := sub_enumerate
    have hL : Heap.IsTuple (Shared.heap ⟨hp, g, d, tk, os⟩) l items := ⟨_, hl, rfl, n, rfl⟩
    wp_walk using wpAny_loadPart' hl
    refine wpAny_stack_any fun st => wpAny_pure ?_
    split
    · rename_i c _ _ _ _ _
      cases (c == Value.type "enumerate")
      · wp_walk using wpAny_loadPart' hl, wpAny_pyIter_tuple hL
        exact ⟨_, rfl, h⟩
      · wp_walk using wpAny_loadPart' hl, wpAny_pyIter_tuple hL
        exact ⟨_, rfl, h⟩
    · wp_walk using wpAny_loadPart' hl, wpAny_pyIter_tuple hL
      exact ⟨_, rfl, h⟩
section
variable {prog : Program} {w : World} {A : Around} {E : Value → Shared → Prop} {s : Shared}
theorem call_enumerate_tuple {l : Addr} {items : Array Value} {Q : Value → Shared → Prop} (hL : s.heap.IsTuple l items)
    (h : ∀ h', IsEnum h' (s.heap.objs.size + 1) s.heap.objs.size 0 .none → h'.IsTupleIter s.heap.objs.size l 0 → h'.objs.size = s.heap.objs.size + 2 →
      (∀ b o, s.heap.get? b = some o → h'.get? b = some o) → Q (.ref (s.heap.objs.size + 1)) { s with heap := h' }) :
    wpAny (model prog w) A (call (.type "enumerate") [.ref l]) Q E s := by
  obtain ⟨⟨c, dct, dt, sl⟩, hl, hc, n, hd⟩ := hL
  replace hc : c = .type "tuple" := hc
  replace hd : dt = .seq items n := hd
  subst hc hd
  refine callType_new F.called_enumerate (by decide) (F.typeCall_enumerate_1 _) (F.newCall_enumerate_1 _) (fun obj => F.args_object_init_2 obj _) F.entry_enumerate_new
    (meets_enumerate_newT l items n dct sl) ⟨hl, ?_⟩
  have hz : (s.heap.push { cls := .type "tuple_iterator", data := .fields #[.ref l, .int 0 0] }).objs.size = s.heap.objs.size + 1 := Heap.size_push ..
  show _ ∧ _
  rw [hz]
  have he : IsEnum ((s.heap.push { cls := .type "tuple_iterator", data := .fields #[.ref l, .int 0 0] }).push
      { cls := .type "enumerate", data := .fields #[.none, .bool false, .ref s.heap.objs.size, rawInt 0, .none, .none] }) (s.heap.objs.size + 1) s.heap.objs.size 0 .none := by
    have := Heap.get?_push_size (s.heap.push { cls := .type "tuple_iterator", data := .fields #[.ref l, .int 0 0] })
      (o := { cls := .type "enumerate", data := .fields #[.none, .bool false, .ref s.heap.objs.size, rawInt 0, .none, .none] }) rfl
    rw [hz] at this; exact this
  refine ⟨⟨_, he, rfl⟩, h _ he ⟨_, Heap.get?_push_of_some _ (Heap.get?_push_size _ rfl), rfl, rfl⟩ (by rw [Heap.size_push, hz]) fun b o x => Heap.get?_push_of_some _ (Heap.get?_push_of_some _ x)⟩
end
def IteT (K : PySem.W.Frag) (a : Addr) : It :=
  ⟨fun i H => ∃ (xs : List V) (x : V), SqT K H a xs ∧ xs[i]? = some x, fun i H v H' => ∃ T x, v = .ref T ∧ H T = none ∧ H' = upd H T (.tup [.int (i : Nat), x]) ∧ ∀ xs, SqT K H a xs → xs[i]? = some x, fun i H => ∃ xs : List V, SqT K H a xs ∧ xs.length ≤ i⟩
theorem turn_enumT {P : Program} {w : World} {K : PySem.W.Frag} {elts : List Expr} {kk : Nat} {tpos : Pos} (a e it : Addr) :
    Turn P w K (.Tuple elts kk tpos) (IteT K a) [e, it] e (fun i h => (∃ old, IsEnum h e it ((i : Nat) : Int) old) ∧ h.IsTupleIter it a i ∧ e ≠ it) where
  mem := by simp
  obj := fun i h st b hb => by
    obtain ⟨⟨old, he⟩, ⟨o, ho, hc, hd⟩, _⟩ := st
    have e' : b = e ∨ b = it := by simpa using hb
    rcases e' with z | z
    · rw [z]; exact ⟨_, he, fun v q => nomatch q⟩
    · rw [z]; exact ⟨o, ho, fun v q => by rw [hd] at q; cases q⟩
  keep := fun i h h' st k => let ⟨⟨old, he⟩, ⟨o, ho, r⟩, hne⟩ := st; ⟨⟨old, k e (by simp) _ he⟩, ⟨o, k it (by simp) _ ho, r⟩, hne⟩
  item := by
    intro X hP hw hK hc i pins s σ H E I hf st hg
    subst hP hw hK
    obtain ⟨⟨old, he⟩, hit, hne⟩ := st
    obtain ⟨xs, x, hq, hx⟩ := hg
    obtain ⟨its, rv, p, hz⟩ := I.tuple hq
    obtain ⟨u, hu, ru⟩ := rv.get hx
    have hel : e < s.heap.objs.size := Heap.lt_size he
    have hil : it < s.heap.objs.size := by obtain ⟨_, q, _⟩ := hit; exact Heap.lt_size q
    have hT : s.heap.IsTuple a its.toArray := p
    have nea : e ≠ a := fun z => by
      obtain ⟨o, ho, hc, _⟩ := hT
      subst z
      have he' := he
      unfold IsEnum at he'
      rw [ho] at he'
      cases he'
      injection hc with hc
      exact absurd hc (by decide)
    have nia : a ≠ it := fun z => by
      obtain ⟨o, ho, hc, _⟩ := hT
      obtain ⟨o2, ho2, hc2, _⟩ := hit
      subst z
      rw [ho] at ho2
      cases ho2
      rw [hc] at hc2
      injection hc2 with hc2
      exact absurd hc2 (by decide)
    have hi : i < its.toArray.size := by
      have := (List.getElem?_eq_some_iff.mp hu).1
      simpa using this
    refine wpAny_pyNext_enum_itemD (Draws.tuple (show X.A.in1.handled = none from I.ok.hd hc) it a nia its.toArray) he ⟨hit, hT⟩ hi hne (by simp [hne, nea]) fun y h' tk hy ho st' hT2 hsz hk => ?_
    have ey : y = u := by
      have : its.toArray[i]? = some y := hy
      simp at this
      exact Option.some.inj (this.symm.trans hu)
    subst ey
    refine ⟨_, rfl, wpAny_letOwnedTupleGo_enum (s := { s with heap := h', toks := tk + 1 }) ho fun h'' he' sb => ?_⟩
    have hT3 : h''.get? s.heap.objs.size = some { cls := .type "tuple", data := .seq #[.int i tk, y] } := (sb.2 _ (Nat.ne_of_gt hel)).trans hT2
    have new : ObjOk X.prog X.w (upd H s.heap.objs.size (.tup [.int (i : Nat), x])) h'' s.heap.objs.size (.tup [.int (i : Nat), x]) :=
      ⟨by show 2 ≤ sizeLine; decide, [.int i tk, y], .cons ⟨_, rfl⟩ (.cons ru .nil), ⟨_, hT3, rfl, _, rfl⟩⟩
    have I1 : Inv X pins σ (upd H s.heap.objs.size (.tup [.int (i : Nat), x])) { s with heap := h'', toks := tk + 1 } :=
      I.turnedNew (ch := [e, it]) (fun b ob hb q => (sb.2 b (fun z => hb (by simp [z]))).trans (hk b ob (fun z => hb (by simp [z])) (fun z => hb (by simp [z])) q)) hf (Nat.le_refl _) new
    refine ⟨.ref s.heap.objs.size, _, I1, rfl, ⟨_, x, rfl, I.hok.fresh (Nat.le_refl _), rfl, fun ys hy => by rw [I.tuple_inj hy hq]; exact hx⟩, ⟨⟨y, ?_⟩, ?_, hne⟩, fun b hb => ?_⟩
    · have e1 : ((i + 1 : Nat) : Int) = (i : Int) + 1 := by omega
      rw [e1]; exact he'
    · obtain ⟨o, q1, q2⟩ := st'.1
      exact ⟨o, (sb.2 it (Ne.symm hne)).trans q1, q2⟩
    · have hb' : b < s.heap.objs.size := by
        have e' : b = e ∨ b = it := by simpa using hb
        rcases e' with z | z
        · rw [z]; exact hel
        · rw [z]; exact hil
      rw [upd_ne (Nat.ne_of_lt hb')]
      exact (hf b hb).1
  done := by
    intro X hP hw hK hc i pins s σ H E I hf st hg
    subst hP hw hK
    obtain ⟨⟨old, he⟩, hit, hne⟩ := st
    obtain ⟨xs, hq, hx⟩ := hg
    obtain ⟨its, rv, p, hz⟩ := I.tuple hq
    obtain ⟨f0, f1, f2, f3, f4, f5⟩ := hf it (by simp)
    have hl := rv.length
    have hT : s.heap.IsTuple a its.toArray := p
    have hT' : s.TypeIs (.ref e) "enumerate" := ⟨_, he, rfl⟩
    unfold pyNext
    refine wpAny_bind (wpAny_attempt (wpAny_callSpecial?_slot (name := Str.ofString "__next__") hT' F.slot_enumerate_next
      (wpAny_call_entry F.slot_enumerate_next hT' F.entry_enumerate_next ?_ (F.args_enumerate_next_1 _))))
    show wpAny _ _ (field (.ref e) 2 >>= _) _ _ _
    refine wpAny_bind (wpAny_field he rfl (x := .ref it) rfl ?_)
    refine wpAny_bind (wpAny_nextOf_tuple_end (show X.A.in1.handled = none from I.ok.hd hc) hit hT (by simp; omega) fun h' x he' hx' => ?_)
    obtain ⟨o, ho, hc'⟩ := hx'
    refine wpAny_bind (wpAny_isInstance (T := "StopIteration") (b := true) ⟨o, ho, hc'⟩ isSubtype_stop ?_)
    exact wpAny_pure ⟨rfl, I.turned (t' := s.toks) (fun b o hb q => he' b o hb q) f0 f1 f3 f4 f5⟩
  self := fun A i s Q E st h => let ⟨⟨_, he⟩, _⟩ := st; wpAny_pyIter_enum he h
def iEnumT (K : PySem.W.Frag) (ta : TA) : TI := fun σ H R => ta σ H fun vs H1 => ∃ a xs, vs = [.ref a] ∧ SqT K H1 a xs ∧ R (IteT K a) H1
theorem pi_enumT {X : Cx} {e : Expr} {ta : TA} {p pos tpos : Pos} {elts : List Expr} {kk : Nat} (hg : Gl X "enumerate") (hm : X.mg "enumerate" = none) (ha : PA X [e] ta) (hs : starEach [e] X.env = [(false, eval e X.env)] := by rfl) :
    PI X (.Tuple elts kk tpos) (.Call (.Name "enumerate" p) [e] [] pos) (iEnumT X.K ta) := by
  refine ⟨fun pins s σ H R I h => ?_⟩
  refine Call_ (ld_blt I hg hm boot_enumerate (PyProof.Rows.callWith_type1 (thn (ha.run pos pins s σ H _ I h) fun us s1 ⟨vs, H1, I1, r1, q1⟩ => ?_) hs rfl))
  obtain ⟨a, xs, ex, hq, q⟩ := q1
  subst ex
  cases r1 with
  | cons r rr =>
    cases rr
    cases r
    obtain ⟨its, rv, p', hz⟩ := I1.tuple hq
    refine call_enumerate_tuple (show s1.heap.IsTuple a its.toArray from p') fun h' he hit hsz hk => wpAny_pyIter_enum he ?_
    have I2 : Inv X pins σ H1 { s1 with heap := h' } := I1.kept (t' := s1.toks) hk
    refine ⟨s1.heap.objs.size + 1, [s1.heap.objs.size + 1, s1.heap.objs.size], _, _, H1, rfl, I2, turn_enumT a (s1.heap.objs.size + 1) s1.heap.objs.size, ⟨⟨.none, he⟩, hit, Nat.succ_ne_self _⟩, fun b hb => ?_, q⟩
    have e' : b = s1.heap.objs.size + 1 ∨ b = s1.heap.objs.size := by simpa using hb
    have hle : s1.heap.objs.size ≤ b := by
      rcases e' with z | z
      · rw [z]; exact Nat.le_add_right _ _
      · rw [z]; exact Nat.le_refl _
    exact I1.fpOk hle (I1.hok.fresh hle)
open Z (Ext dpUp dpsUp dpsLen dpsGet DxO KyD DEn Cl cut offv bl Dfn)
section
variable {X : Cx} {ex a b c tg iter elt : Expr} {es ifs elts : List Expr} {st : Stmt} {rest body orelse : List Stmt} {m ma mb mc : ME} {ms : MA} {mt mu : MT} {pos p tpos : Pos} {M M1 M2 : MS}
/-- pairs of places and data -/
def enumD (xs : List PyData) : List D := (List.range xs.length).zipWith (fun i x => .d (.tuple [.int (i : Nat), x])) xs
theorem enumD_len (xs : List PyData) : (enumD xs).length = xs.length := by unfold enumD; simp
theorem enumD_get {xs : List PyData} {i : Nat} {x : PyData} (h : xs[i]? = some x) : (enumD xs)[i]? = some (.d (.tuple [.int (i : Nat), x])) := by
  unfold enumD
  have hi := (List.getElem?_eq_some_iff.mp h).1
  rw [List.getElem?_zipWith, List.getElem?_range hi, h]
theorem enumD_at {xs : List PyData} {i : Nat} {d : D} (h : (enumD xs)[i]? = some d) : ∃ x, xs[i]? = some x ∧ d = .d (.tuple [.int (i : Nat), x]) := by
  have hi := (List.getElem?_eq_some_iff.mp h).1
  rw [enumD_len] at hi
  have h1 := enumD_get (List.getElem?_eq_getElem hi)
  rw [h] at h1
  exact ⟨_, List.getElem?_eq_getElem hi, Option.some.inj h1⟩
theorem wk_pair {B : Ba} {w : W} {s : Sto} {H : Hp} {T : Addr} {v : V} {x : PyData} {i : Nat} (g : Ok B w s H) (hT : H T = none) (hv : Dp B.K w.F v x) : ∃ w', w.le w' ∧ Ok B w' s (upd H T (.tup [.int (i : Nat), v])) ∧ VR B w' (.ref T) (.d (.tuple [.int (i : Nat), x])) :=
  tup_ok g hT (.cons (.int _) (.cons hv .nil))
/-- over enumerate(x), x a tuple or a list, of data -/
def iEnum (ms : MA) : MI := fun e s => match ms e s with
  | some ([.d (.tuple xs)], s1) => some (enumD xs, none, s1)
  | some ([.d (.list xs)], s1) => some (enumD xs, none, s1)
  | some ([.r j], s1) => match s1[j]? with
    | some (.lst ds) => match data ds with
      | some xs => some (enumD xs, some (j, ds), s1)
      | none => none
    | _ => none
  | _ => none
theorem ni_enum {kk : Nat} (h : NA X [a] ms) (hm : X.mg "enumerate" = none) (hg : Gl X "enumerate" := by rfl) (hs : starEach [a] X.env = [(false, eval a X.env)] := by rfl) : NI X (.Tuple elts kk tpos) (.Call (.Name "enumerate" p) [a] [] pos) (iEnum ms) := fun e s items ck s1 hmm => by
  unfold iEnum at hmm
  split at hmm
  · rename_i xs s2 e1
    cases hmm
    refine PI.imp (pi_enumT hg hm (h _ _ _ _ e1) hs) fun σ H R ⟨w, g, l, k⟩ => ⟨w, g, l, fun us w1 H1 l1 g1 v1 => ?_⟩
    obtain ⟨u, rfl, h1⟩ := vrs1 v1
    obtain ⟨q, vs, rfl, h2, h3⟩ := dp_tup h1
    refine ⟨q, vs, rfl, g1.ext.t h2, k _ w1 H1 l1 g1 trivial fun w2 s2 H2 l2 g2 _ => ?_⟩
    have hs2 : SqT X.K H2 q vs := g2.ext.t (l2.F.t h2)
    refine ⟨fun i x hx => ?_, _, hs2, by rw [enumD_len, dpsLen h3]; exact Nat.le_refl _⟩
    obtain ⟨y, hy, rfl⟩ := enumD_at hx
    obtain ⟨v, q1, q2⟩ := dpsGet h3 hy
    refine ⟨⟨vs, v, hs2, q1⟩, fun v' H' ⟨T, z, e3, hT, e4, hv⟩ => ?_⟩
    subst e3 e4
    have : v = z := Option.some.inj (q1.symm.trans (hv _ hs2))
    subst this
    exact wk_pair g2 hT (dpUp l2.F _ _ q2)
  · rename_i xs s2 e1
    cases hmm
    refine PI.imp (pi_enum hg hm (h _ _ _ _ e1) hs) fun σ H R ⟨w, g, l, k⟩ => ⟨w, g, l, fun us w1 H1 l1 g1 v1 => ?_⟩
    obtain ⟨u, rfl, h1⟩ := vrs1 v1
    have h1' : Dp X.K w1.F u (.list xs) := h1
    obtain ⟨q, vs, rfl, h2, h3⟩ : ∃ q vs, u = .ref q ∧ SqL X.K w1.F q vs ∧ DpAll X.K w1.F vs xs := by
      cases h1' with
      | lst a b => exact ⟨_, _, rfl, a, b⟩
    refine ⟨q, vs, rfl, g1.ext.l h2, k _ w1 H1 l1 g1 trivial fun w2 s2 H2 l2 g2 _ => ?_⟩
    have hs2 : SqL X.K H2 q vs := g2.ext.l (l2.F.l h2)
    refine ⟨fun i x hx => ?_, _, hs2, by rw [enumD_len, dpsLen h3]; exact Nat.le_refl _⟩
    obtain ⟨y, hy, rfl⟩ := enumD_at hx
    obtain ⟨v, q1, q2⟩ := dpsGet h3 hy
    refine ⟨⟨vs, v, hs2, q1⟩, fun v' H' ⟨T, z, e3, hT, e4, hv⟩ => ?_⟩
    subst e3 e4
    have : v = z := Option.some.inj (q1.symm.trans (hv _ hs2))
    subst this
    exact wk_pair g2 hT (dpUp l2.F _ _ q2)
  · rename_i j s2 e1
    split at hmm
    · rename_i ds e2
      split at hmm
      · rename_i xs e3
        cases hmm
        refine PI.imp (pi_enum hg hm (h _ _ _ _ e1) hs) fun σ H R ⟨w, g, l, k⟩ => ⟨w, g, l, fun us w1 H1 l1 g1 v1 => ?_⟩
        obtain ⟨u, rfl, h1⟩ := vrs1 v1
        obtain ⟨q, h1, rfl⟩ := h1
        obtain ⟨_, vs, h2, h3⟩ := g1.ce _ _ q e2 h1
        refine ⟨q, vs, rfl, .of h2, k _ w1 H1 l1 g1 e2 fun w2 s2 H2 l2 g2 c2 => ?_⟩
        obtain ⟨_, us, h4, h5⟩ := g2.ce _ _ q c2 (pre_get l2.ρ h1)
        have hs2 : SqL X.K H2 q us := .of h4
        rw [data_eq e3] at h5
        have h5 := VRs.data.mp h5
        refine ⟨fun i x hx => ?_, _, hs2, by rw [enumD_len, dpsLen h5]; exact Nat.le_refl _⟩
        obtain ⟨y, hy, rfl⟩ := enumD_at hx
        obtain ⟨v, q1, q2⟩ := dpsGet h5 hy
        refine ⟨⟨us, v, hs2, q1⟩, fun v' H' ⟨T, z, e3, hT, e4, hv⟩ => ?_⟩
        subst e3 e4
        have : v = z := Option.some.inj (q1.symm.trans (hv _ hs2))
        subst this
        exact wk_pair g2 hT q2
      · cases hmm
    · cases hmm
  · cases hmm
end
end N

namespace N
open PySem L2 PyProof.Rows
open Z (Ext dpUp dpsUp dpsLen dpsGet DxO KyD DEn Cl cut offv bl Dfn)
/-! ### dicts whose keys are ints and texts -/
def kGet (kvs : List (Key × D)) (k : Key) : Option D := (kvs.find? fun kv => decide (kv.1 = k)).map (·.2)
def kPut (kvs : List (Key × D)) (k : Key) (d : D) : List (Key × D) := if kHas kvs k then kvs.map fun kv => if kv.1 = k then (kv.1, d) else kv else kvs ++ [(k, d)]
section
variable {B : Ba} {w : W} {k : Key}
theorem KR.has : ∀ {xs : List (Key × V)} {kvs : List (Key × D)}, KR B w xs kvs → (xs.any fun kv => decide (kv.1 = k)) = kHas kvs k
  | [], [], _ => rfl
  | e :: xs, kv :: kvs, ⟨⟨h1, _⟩, h⟩ => by
    unfold kHas
    rw [List.any_cons, List.any_cons, h1, KR.has h]
    rfl
  | [], _ :: _, h => h.elim
  | _ :: _, [], h => h.elim
theorem KR.val : ∀ {xs : List (Key × V)} {kvs : List (Key × D)}, KR B w xs kvs → (valV xs k).isSome = kHas kvs k ∧ ∀ d, kGet kvs k = some d → ∃ v, valV xs k = some v ∧ VR B w v d
  | [], [], _ => ⟨rfl, fun d h => by cases h⟩
  | e :: xs, kv :: kvs, ⟨⟨h1, h2⟩, h⟩ => by
    obtain ⟨ih1, ih2⟩ := KR.val h
    unfold valV kGet at *
    unfold kHas at *
    rw [Option.isSome_map] at ih1
    rw [List.any_cons, List.find?_cons, List.find?_cons, h1]
    by_cases hk : kv.1 = k
    · simp only [hk, decide_true, Option.map_some, Option.isSome_some, Bool.true_or, true_and]
      intro d hd
      cases hd
      exact ⟨_, rfl, h2⟩
    · simp only [hk, decide_false, Bool.false_or]
      refine ⟨by rw [Option.isSome_map]; exact ih1, ih2⟩
  | [], _ :: _, h => h.elim
  | _ :: _, [], h => h.elim
theorem KR.put {v : V} {d : D} (hv : VR B w v d) {xs : List (Key × V)} {kvs : List (Key × D)} (h : KR B w xs kvs) : KR B w (putK xs k v) (kPut kvs k d) := by
  have mp : ∀ {xs : List (Key × V)} {kvs : List (Key × D)}, KR B w xs kvs → KR B w (xs.map fun kv => if kv.1 = k then (kv.1, v) else kv) (kvs.map fun kv => if kv.1 = k then (kv.1, d) else kv) := by
    intro xs
    induction xs with
    | nil => intro kvs h; cases kvs with
      | nil => trivial
      | cons => exact h.elim
    | cons e xs ih => intro kvs h; cases kvs with
      | nil => exact h.elim
      | cons kv kvs =>
        obtain ⟨⟨h1, h2⟩, h3⟩ := h
        refine ⟨?_, ih h3⟩
        dsimp only
        by_cases hk : kv.1 = k
        · rw [if_pos (h1.trans hk), if_pos hk]; exact ⟨h1, hv⟩
        · rw [if_neg (by rw [h1]; exact hk), if_neg hk]; exact ⟨h1, h2⟩
  have ap : ∀ {xs : List (Key × V)} {kvs : List (Key × D)}, KR B w xs kvs → KR B w (xs ++ [(k, v)]) (kvs ++ [(k, d)]) := by
    intro xs
    induction xs with
    | nil => intro kvs h; cases kvs with
      | nil => exact ⟨⟨rfl, hv⟩, trivial⟩
      | cons => exact h.elim
    | cons e xs ih => intro kvs h; cases kvs with
      | nil => exact h.elim
      | cons kv kvs => exact ⟨h.1, ih h.2⟩
  unfold putK kPut
  rw [h.has]
  split
  · exact mp h
  · exact ap h
end
theorem chg_dk {B : Ba} {w : W} {s : Sto} {H : Hp} {v : V} {j : Nat} {kvs : List (Key × D)} (g : Ok B w s H) (hv : VR B w v (.r j)) (hs : s[j]? = some (.dk kvs)) :
    ∃ a xs, v = .ref a ∧ H a = some (.dK xs) ∧ KR B w xs kvs ∧ ∀ kvs' xs', KR B w xs' kvs' → Ok B w (s.set j (.dk kvs')) (upd H a (.dK xs')) := by
  obtain ⟨a, h1, rfl⟩ := hv
  obtain ⟨hF, xs, h2, h3⟩ := g.ce _ _ a hs h1
  exact ⟨a, xs, rfl, h2, h3, fun kvs' xs' h => g.chg h1 hF ⟨hF, xs', upd_same, h⟩⟩
section
variable {X : Cx} {ex a b c tg iter elt kx vx : Expr} {es ifs elts : List Expr} {st : Stmt} {rest body orelse : List Stmt} {m ma mb mc : ME} {ms : MA} {mt mu : MT} {pos p tpos : Pos} {M M1 M2 : MS}
def eDicK : ME := fun _ s => some (.r s.length, s ++ [.dk []])
theorem n_dicK : NE X (.Dict [] [] pos) eDicK := fun e s d s' h => by
  cases h
  refine PE.imp pe_dnewK fun σ H Q ⟨w, g, l, k⟩ => fun p hp => ?_
  exact k _ _ _ Ok.new_le (g.new hp ⟨ext_none g.ext hp, [], upd_same, trivial⟩) g.new_at
theorem in_dk {neg : Bool} {s : Sto} {a : D} {j : Nat} {kvs : List (Key × D)} {k : Bool} (h : cIn neg s a (.r j) = some k) (e : s[j]? = some (.dk kvs)) : ∃ x kk, a = .d x ∧ keyOf x = some kk ∧ k = (if neg then !kHas kvs kk else kHas kvs kk) := by
  unfold cIn at h
  simp only [e] at h
  split at h
  · rename_i x
    split at h
    · rename_i kk e2
      cases h
      exact ⟨x, kk, rfl, e2, rfl⟩
    · cases h
  · cases h
/-- x in ..: the full -/
theorem n_in {neg : Bool} {op : CmpOp} (hop : (op = .In ∧ neg = false) ∨ (op = .NotIn ∧ neg = true)) (hu : X.A.units + 64 < cLine) (ha : NE X a ma) (hb : NE X b mb) (hm : behindInMarks op b = false := by rfl) : NE X (.Compare a [op] [b] pos) (eCmp (cIn neg) ma mb) := fun e s z s' h => by
  obtain ⟨x, s1, y, s2, e1, e2, e3⟩ := bin_cases h
  split at e3
  · rename_i k ek
    cases e3
    by_cases hd : ∃ j kvs, y = .r j ∧ s'[j]? = some (.dk kvs)
    · obtain ⟨j, kvs, rfl, hj⟩ := hd
      obtain ⟨dx, kk, rfl, hk, rfl⟩ := in_dk ek hj
      rcases hop with ⟨rfl, rfl⟩ | ⟨rfl, rfl⟩
      · refine PE.imp (pe_cmp (pc_din (by omega) (ha _ _ _ _ e1) (hb _ _ _ _ e2)) hm) fun σ H Q ⟨w, g, l, q⟩ => ⟨w, g, l, fun v w1 H1 l1 g1 v1 => ⟨w1, g1, l.up l1, fun u w2 H2 l2 g2 v2 => ?_⟩⟩
        obtain ⟨p1, xs, rfl, h2, h3, _⟩ := chg_dk g2 v2 hj
        have hv := keyOf_ok hk (v1.up l2)
        refine ⟨p1, valV xs kk, rfl, .inl ⟨xs, kk, .inl h2, hv, rfl⟩, ?_⟩
        rw [(h3.val (k := kk)).1]
        exact q _ w2 H2 (l1.trans l2) g2 vb
      · refine PE.imp (pe_cmp (pc_dnotin (by omega) (ha _ _ _ _ e1) (hb _ _ _ _ e2)) hm) fun σ H Q ⟨w, g, l, q⟩ => ⟨w, g, l, fun v w1 H1 l1 g1 v1 => ⟨w1, g1, l.up l1, fun u w2 H2 l2 g2 v2 => ?_⟩⟩
        obtain ⟨p1, xs, rfl, h2, h3, _⟩ := chg_dk g2 v2 hj
        have hv := keyOf_ok hk (v1.up l2)
        refine ⟨p1, valV xs kk, rfl, .inl ⟨xs, kk, .inl h2, hv, rfl⟩, ?_⟩
        rw [(h3.val (k := kk)).1]
        exact q _ w2 H2 (l1.trans l2) g2 vb
    · have nd : ∀ j kvs, y = .r j → s'[j]? ≠ some (.dk kvs) := fun j kvs e1 e2 => hd ⟨j, kvs, e1, e2⟩
      rcases hop with ⟨rfl, rfl⟩ | ⟨rfl, rfl⟩
      · obtain ⟨q, hq, hB⟩ := cIn_ok Z.op_inZ (Z.op_inX (by omega)) hu ek nd
        exact PE.imp (pe_cmpR hq (ha _ _ _ _ e1) (hb _ _ _ _ e2) hm) (bi_run hB)
      · obtain ⟨q, hq, hB⟩ := cIn_ok Z.op_ninZ (Z.op_ninX (by omega)) hu ek nd
        exact PE.imp (pe_cmpR hq (ha _ _ _ _ e1) (hb _ _ _ _ e2) hm) (bi_run hB)
  · cases e3
theorem nt_in {neg : Bool} {op : CmpOp} (hop : (op = .In ∧ neg = false) ∨ (op = .NotIn ∧ neg = true)) (hu : X.A.units + 64 < cLine) (ha : NE X a ma) (hb : NE X b mb) (hm : behindInMarks op b = false := by rfl) : NT X (.Compare a [op] [b] pos) (tCmp (cIn neg) ma mb) := fun e s k s' h => by
  unfold tCmp at h
  split at h
  · rename_i x s1 e1
    split at h
    · rename_i y s2 e2
      split at h
      · rename_i k' ek
        cases h
        by_cases hd : ∃ j kvs, y = .r j ∧ s'[j]? = some (.dk kvs)
        · obtain ⟨j, kvs, rfl, hj⟩ := hd
          obtain ⟨dx, kk, rfl, hk, rfl⟩ := in_dk ek hj
          rcases hop with ⟨rfl, rfl⟩ | ⟨rfl, rfl⟩
          · refine PT.imp (pt_cmp (pc_din (by omega) (ha _ _ _ _ e1) (hb _ _ _ _ e2)) hm) fun σ H Q ⟨w, g, l, q⟩ => ⟨w, g, l, fun v w1 H1 l1 g1 v1 => ⟨w1, g1, l.up l1, fun u w2 H2 l2 g2 v2 => ?_⟩⟩
            obtain ⟨p1, xs, rfl, h2, h3, _⟩ := chg_dk g2 v2 hj
            have hv := keyOf_ok hk (v1.up l2)
            refine ⟨p1, valV xs kk, rfl, .inl ⟨xs, kk, .inl h2, hv, rfl⟩, _, rfl, ?_⟩
            rw [(h3.val (k := kk)).1]
            exact q w2 H2 (l1.trans l2) g2
          · refine PT.imp (pt_cmp (pc_dnotin (by omega) (ha _ _ _ _ e1) (hb _ _ _ _ e2)) hm) fun σ H Q ⟨w, g, l, q⟩ => ⟨w, g, l, fun v w1 H1 l1 g1 v1 => ⟨w1, g1, l.up l1, fun u w2 H2 l2 g2 v2 => ?_⟩⟩
            obtain ⟨p1, xs, rfl, h2, h3, _⟩ := chg_dk g2 v2 hj
            have hv := keyOf_ok hk (v1.up l2)
            refine ⟨p1, valV xs kk, rfl, .inl ⟨xs, kk, .inl h2, hv, rfl⟩, _, rfl, ?_⟩
            rw [(h3.val (k := kk)).1]
            exact q w2 H2 (l1.trans l2) g2
        · have nd : ∀ j kvs, y = .r j → s'[j]? ≠ some (.dk kvs) := fun j kvs e1 e2 => hd ⟨j, kvs, e1, e2⟩
          have go : ∀ {q : R2}, OpR X (compareOp op) q → BiN (ba X) q s' x y (.d (.bool k)) s' → PT X (.Compare a [op] [b] pos) (tT (ba X) e s k s') := fun hq hB => by
            refine PT.imp (pt_cmpR hq (ha _ _ _ _ e1) (hb _ _ _ _ e2) hm) fun σ H Q ⟨w, g, l, q'⟩ => ?_
            refine bi_run hB σ H _ ⟨w, g, l, fun v w' H' l' g' v' => ?_⟩
            exact ⟨k, vr_bl v', q' w' H' l' g'⟩
          rcases hop with ⟨rfl, rfl⟩ | ⟨rfl, rfl⟩
          · obtain ⟨q, hq, hB⟩ := cIn_ok Z.op_inZ (Z.op_inX (by omega)) hu ek nd
            exact go hq hB
          · obtain ⟨q, hq, hB⟩ := cIn_ok Z.op_ninZ (Z.op_ninX (by omega)) hu ek nd
            exact go hq hB
      · cases h
    · cases h
  · cases h
/-- d[k], keys ints and texts -/
def eIxK (ma mb : ME) : ME := eBin (fun s a b => match a, b with
  | .r j, .d x => match s[j]? with
    | some (.dk kvs) => match keyOf x with
      | some k => match kGet kvs k with
        | some d => some (d, s)
        | none => none
      | none => none
    | _ => none
  | _, _ => none) ma mb
theorem n_ixK (hu : X.A.units + 64 < cLine) (ha : NE X a ma) (hb : NE X b mb) (hs : NoSl b := by intro _ _; rfl) : NE X (.Subscript a b pos) (eIxK ma mb) := fun e s z s' h => by
  obtain ⟨x, s1, y, s2, e1, e2, e3⟩ := bin_cases h
  split at e3
  · rename_i j x
    split at e3
    · rename_i kvs e4
      split at e3
      · rename_i kk hk
        split at e3
        · rename_i d e5
          cases e3
          refine PE.imp (pe_dget (by omega) (ha _ _ _ _ e1) (hb _ _ _ _ e2) hs) fun σ H Q ⟨w, g, l, q⟩ => ⟨w, g, l, fun v w1 H1 l1 g1 v1 => ⟨w1, g1, l.up l1, fun u w2 H2 l2 g2 v2 => ?_⟩⟩
          obtain ⟨p1, xs, rfl, h2, h3, _⟩ := chg_dk g2 (v1.up l2) e4
          obtain ⟨vv, h4, h5⟩ := (h3.val (k := kk)).2 _ e5
          exact ⟨p1, vv, rfl, .inl ⟨xs, kk, .inl h2, keyOf_ok hk v2, h4.symm⟩, q _ w2 H2 (l1.trans l2) g2 h5⟩
        · cases e3
      · cases e3
    · cases e3
  · cases e3
noncomputable def eIt (ma mb : ME) : ME := fun e s => match eItem ma mb e s with
  | some r => some r
  | none => eIxK ma mb e s
theorem n_it (hu : X.A.units + 64 < cLine) (ha : NE X a ma) (hb : NE X b mb) (hs : PlainIx b := by intro _ _; rfl) (hs2 : NoSl b := by intro _ _; rfl) : NE X (.Subscript a b pos) (eIt ma mb) := fun e s z s' h => by
  unfold eIt at h
  split at h
  · rename_i r e1
    cases h
    exact n_item hu ha hb hs _ _ _ _ e1
  · exact n_ixK hu ha hb hs2 _ _ _ _ h
def sPutK (ma mi mv : ME) : MS := fun e s => match mv e s with
  | some (d, s1) => match ma e s1 with
    | some (.r j, s2) => match mi e s2 with
      | some (.d x, s3) => match s3[j]? with
        | some (.dk kvs) => match keyOf x with
          | some k => if kvs.length < lim then some (.nx, e, s3.set j (.dk (kPut kvs k d))) else none
          | none => none
        | _ => none
      | _ => none
    | _ => none
  | none => none
theorem ns_putK {tpos : Pos} {mi mv : ME} (hu : X.A.units + 64 < cLine) (hv : NE X ex mv) (ha : NE X a ma) (hi : NE X b mi) (hs : swapsWith ex (some (.Subscript a b tpos)) pos.line X.env = pure false := by rfl) : NS X (.Assign [.Subscript a b tpos] ex pos) (sPutK ma mi mv) := fun e s fl e' s' bb hm hb => by
  unfold sPutK at hm
  split at hm
  · rename_i d s1 e1
    split at hm
    · rename_i j s2 e2
      split at hm
      · rename_i x s3 e3
        split at hm
        · rename_i kvs e4
          split at hm
          · rename_i kk hk
            split at hm
            · rename_i hl
              cases hm
              refine Z.PS.imp (ps_dput (by omega) (ha _ _ _ _ e2) (hi _ _ _ _ e3) (hv _ _ _ _ e1) hs) fun Dn σ H ⟨w, g, l, k⟩ => ⟨w, g, l, fun v w1 H1 l1 g1 v1 => ⟨w1, g1, l.up l1, fun u w2 H2 l2 g2 v2 => ⟨w2, g2, (l.up l1).up l2, fun z w3 H3 l3 g3 v3 => ?_⟩⟩⟩
              obtain ⟨p1, xs, rfl, h2, h3, h4⟩ := chg_dk g3 (v2.up l3) e4
              refine ⟨p1, _, rfl, .inl ⟨xs, kk, h2, keyOf_ok hk v3, by rw [h3.len]; exact Nat.lt_trans hl lim_lt, rfl⟩, ?_⟩
              exact k w3 σ _ (((l1.trans l2).trans l3).cut bb) (h4 _ _ (h3.put ((v1.up l2).up l3))) (((l.up l1).up l2).up l3)
            · cases hm
          · cases hm
        · cases hm
      · cases hm
    · cases hm
  · cases hm
noncomputable def sPu (ma mi mv : ME) : MS := fun e s => match sPutU ma mi mv e s with
  | some r => some r
  | none => sPutK ma mi mv e s
theorem ns_pu {tpos : Pos} {mi mv : ME} (hu : X.A.units + 64 < cLine) (hv : NE X ex mv) (ha : NE X a ma) (hi : NE X b mi)
    (hsub : ∀ v, assign (.Subscript a b tpos) X.env v = (do
      let ov ← holding [v] (eval a X.env)
      let iv ← holding [v, ov] (eval b X.env)
      standAt tpos
      holding [v, ov, iv] (setItem ov iv v)
      release [v, ov, iv] []) := by intro _; rfl)
    (hs : swapsWithSole [.Subscript a b tpos] ex pos.line X.env = pure false := by rfl) (hw : swappedStores [.Subscript a b tpos] ex X.env = pure none := by rfl) (h1 : (assignEach [.Subscript a b tpos] X.env).map (·.2) = [assign (.Subscript a b tpos) X.env] := by rfl)
    (hs2 : swapsWith ex (some (.Subscript a b tpos)) pos.line X.env = pure false := by rfl) :
    NS X (.Assign [.Subscript a b tpos] ex pos) (sPu ma mi mv) := fun e s fl e' s' bb hm hb => by
  unfold sPu at hm
  split at hm
  · rename_i r e1
    cases hm
    exact ns_putU hu hv ha hi hsub hs hw h1 _ _ _ _ _ _ e1 hb
  · exact ns_putK hu hv ha hi hs2 _ _ _ _ _ _ hm hb

/-! ### {k: v for ..} -/
open Classical in
noncomputable def dcL (k : Nat) (ck : Option (Nat × List D)) (g : MG) (mt : MT) (ek el : ME) (e0 : Lo) : List D → Sto → Option Sto
  | [], s => if chkOk ck s then some s else none
  | x :: xs, s => if chkOk ck s then match g x e0 with
      | some e1 => match mt e1 s with
        | some (true, s1) => match ek e1 s1 with
          | some (.d kd, s2) => match el e1 s2 with
            | some (y, s3) => match s3[k]? with
              | some (.dk kvs) => match keyOf kd with
                | some kk => if kvs.length < lim then dcL k ck g mt ek el e0 xs (s3.set k (.dk (kPut kvs kk y))) else none
                | none => none
              | _ => none
            | none => none
          | _ => none
        | some (false, s1) => dcL k ck g mt ek el e0 xs s1
        | none => none
      | none => none
    else none
noncomputable def eDc (vs : List Nat) (mi : MI) (g : MG) (mt : MT) (ek el : ME) : ME := fun e s => match mi e s with
  | some (items, ck, s1) => match dcL s1.length ck g mt ek el (wipeN e vs) items (s1 ++ [.dk []]) with
    | some s2 => some (.r s1.length, s2)
    | none => none
  | none => none
theorem dc_run {mi : MI} {g : MG} {ek el : ME} {vs : List Nat} {e : Lo} {s s' : Sto} {d : D} (h : eDc vs mi g mt ek el e s = some (d, s')) {wi : TI} (hw : ∀ items ck s1 σ H R, mi e s = some (items, ck, s1) → tI (ba X) e s items ck s1 σ H R → wi σ H R)
    {G : TG} {TT' : TT} {KK EE : TE} (hG : ∀ s d e e' v σ H Q, g d e = some e' → tG (ba X) vs s d e e' v σ H Q → G v σ H Q) (hT : ∀ e s b s' σ H Q, mt e s = some (b, s') → tT (ba X) e s b s' σ H Q → TT' σ H Q)
    (hK' : ∀ e s d s' σ H Q, ek e s = some (d, s') → tE (ba X) e s d s' σ H Q → KK σ H Q) (hE : ∀ e s d s' σ H Q, el e s = some (d, s') → tE (ba X) e s d s' σ H Q → EE σ H Q) :
    ∀ σ H Q, tE (ba X) e s d s' σ H Q → tDc wi G TT' KK EE vs σ H Q := by
  intro σ H Q ⟨w, g0, l, k⟩
  unfold eDc at h
  split at h
  · rename_i items ck s1 e1
    split at h
    · rename_i sF eF
      refine hw _ _ _ _ _ _ e1 ⟨w, g0, l, fun J w1 H1 l1 g1 ck1 wk D hD => ?_⟩
      have gD : Ok (ba X) ⟨w1.F, w1.ρ ++ [D]⟩ (s1 ++ [.dk []]) (upd H1 D (.dK [])) := g1.new hD ⟨ext_none g1.ext hD, [], upd_same, trivial⟩
      have lD : w1.le ⟨w1.F, w1.ρ ++ [D]⟩ := Ok.new_le
      have atD : (w1.ρ ++ [D])[s1.length]? = some D := by rw [← g1.lr, List.getElem?_append_right (Nat.le_refl _), Nat.sub_self]; rfl
      refine ⟨fun i m H' => m = items.length - i ∧ i ≤ items.length ∧ ∃ s2 w2, dcL s1.length ck g mt ek el (wipeN e vs) (items.drop i) s2 = some sF ∧ W.le ⟨w1.F, w1.ρ ++ [D]⟩ w2 ∧ Ok (ba X) w2 s2 H', ⟨_, rfl, Nat.zero_le _, _, _, eF, W.le.refl _, gD⟩, ?_⟩
      rintro i m H' ⟨rfl, hi', s2, w2, hf, l2, g2⟩
      have slw : ∀ {w' : W}, W.le ⟨w1.F, w1.ρ ++ [D]⟩ w' → Sl (ba X) w' (wipeN e vs) (wipe σ vs) := fun h => (l.up ((l1.trans lD).trans h)).wipe vs
      by_cases hlt : i < items.length
      · rw [List.drop_eq_getElem_cons hlt] at hf
        unfold dcL at hf
        split at hf
        · rename_i hck
          obtain ⟨wk1, _⟩ := wk w2 s2 H' (lD.trans l2) g2 hck
          obtain ⟨go, yl⟩ := wk1 i items[i] (List.getElem?_eq_getElem hlt)
          refine .inr ⟨go, fun H3 => ∃ s3 w3, dcL s1.length ck g mt ek el (wipeN e vs) (items.drop (i + 1)) s3 = some sF ∧ W.le ⟨w1.F, w1.ρ ++ [D]⟩ w3 ∧ Ok (ba X) w3 s3 H3, fun H3 h3 => ⟨items.length - (i + 1), by omega, rfl, hlt, h3⟩, fun v H4 y => ?_⟩
          obtain ⟨w4, l4, g4, v4⟩ := yl v H4 y
          cases hgx : g items[i] (wipeN e vs) with
          | none => rw [hgx] at hf; cases hf
          | some e3 =>
            rw [hgx] at hf
            refine hG _ _ _ _ _ _ _ _ hgx ⟨w4, g4, slw (l2.trans l4), v4, fun σ5 o l5 => ⟨Z.wipe_off o, ?_⟩⟩
            cases hM : mt e3 s2 with
            | none => simp only [hM] at hf; cases hf
            | some z =>
              obtain ⟨bb, s5⟩ := z
              simp only [hM] at hf
              refine hT _ _ _ _ _ _ _ hM ⟨w4, g4, l5, fun w6 H6 l6 g6 => ?_⟩
              cases bb with
              | false =>
                dsimp only
                rw [if_neg Bool.false_ne_true]
                exact ⟨s5, w6, hf, (l2.trans l4).trans l6, g6⟩
              | true =>
                dsimp only
                rw [if_pos rfl]
                cases hK : ek e3 s5 with
                | none => simp only [hK] at hf; cases hf
                | some z =>
                  obtain ⟨kd0, s7⟩ := z
                  simp only [hK] at hf
                  cases kd0 with
                  | r j => cases hf
                  | d kd =>
                    refine hK' _ _ _ _ _ _ _ hK ⟨w6, g6, l5.up l6, fun uk w7 H7 l7 g7 v7 => ?_⟩
                    cases hE2 : el e3 s7 with
                    | none => simp only [hE2] at hf; cases hf
                    | some z =>
                      obtain ⟨yd, s8⟩ := z
                      simp only [hE2] at hf
                      refine hE _ _ _ _ _ _ _ hE2 ⟨w7, g7, (l5.up l6).up l7, fun u w8 H8 l8 g8 v8 => ?_⟩
                      have l18 := (((l2.trans l4).trans l6).trans l7).trans l8
                      have at8 : w8.ρ[s1.length]? = some D := pre_get l18.ρ atD
                      split at hf
                      · rename_i kvs e8
                        split at hf
                        · rename_i kk ekk
                          split at hf
                          · rename_i hl
                            obtain ⟨a9, xs9, q1, q2, q3, q4⟩ := chg_dk (v := .ref D) g8 ⟨D, at8, rfl⟩ e8
                            cases q1
                            exact ⟨xs9, kk, keyOf_ok ekk (v7.up l8), q2, by rw [q3.len]; exact Nat.lt_trans hl lim_lt, _, w8, hf, l18, q4 _ _ (q3.put v8)⟩
                          · cases hf
                        · cases hf
                      · cases hf
        · cases hf
      · have e' : i = items.length := by omega
        subst e'
        rw [List.drop_length] at hf
        unfold dcL at hf
        split at hf
        · rename_i hck
          cases hf
          cases h
          obtain ⟨_, st⟩ := wk w2 _ H' (lD.trans l2) g2 hck
          exact .inl ⟨st, k _ w2 H' ((l1.trans lD).trans l2) g2 ⟨D, pre_get l2.ρ atD, rfl⟩⟩
        · cases hf
    · cases h
  · cases h
theorem ps_setDc {i : Nat} {y : Str} {py : Pos} {scope : Scope} {own : List (Str × Nat)} {spos : Pos} {wi : TI} {g : TG} {tt : TT} {tk tv : TE} (hc : X.calm = true) (hN : X.N.Nodup) (hy : X.N[i]? = some y) (hyl : X.env.scope.names.lookup y = some .local)
    (hsw : swapsWith (.DictComp kx vx [⟨tg, iter, ifs, 0⟩] scope pos) (some (.Name y py)) spos.line X.env = pure true) (hi : PI X tg iter wi) (ok : BlkOk X.N X.env.scope scope own)
    (hg : ∀ (s : Shared) (H : Hp) (C : Addr) (cl : List (Str × Addr)) (fp : List Addr), PG (X.blk s H scope (compEnvC scope cl C X.env) fp) tg g) (ht : ∀ (s : Shared) (H : Hp) (C : Addr) (cl : List (Str × Addr)) (fp : List Addr), PTs (X.blk s H scope (compEnvC scope cl C X.env) fp) ifs tt)
    (hk : ∀ (s : Shared) (H : Hp) (C : Addr) (cl : List (Str × Addr)) (fp : List Addr), PE (X.blk s H scope (compEnvC scope cl C X.env) fp) kx tk) (he : ∀ (s : Shared) (H : Hp) (C : Addr) (cl : List (Str × Addr)) (fp : List Addr), PE (X.blk s H scope (compEnvC scope cl C X.env) fp) vx tv) (hs : ∀ x, foldedSetIterable iter X.env x = pure x) :
    PS X (.Assign [.Name y py] (.DictComp kx vx [⟨tg, iter, ifs, 0⟩] scope pos) spos) (tAsg (tDc wi g tt tk tv (own.map (·.2))) (L2.gName i)) := by
  refine ⟨fun pins s σ H D I h => ?_⟩
  rw [exec_Assign_Name_used _ _ _ _ hsw]
  refine wpAny_bind (wpAny_standAt (wpAny_bind ?_))
  show wpAny _ X.A (do let _ ← comprehension (.DictComp kx vx [⟨tg, iter, ifs, 0⟩] scope pos) scope X.env (firstIterPos [⟨tg, iter, ifs, 0⟩] pos) newDict false (eval iter X.env) (some (assign (.Name y py) X.env))) _ _ s
  have h : tDc wi g tt tk tv (own.map (·.2)) σ H (fun x H1 => L2.gName i x σ H1 D.nx) := h
  refine wpAny_bind (thn (dc_core (Qf := fun _ s' => SP X pins D .next s') hc hN I hi ok hg ht hk he hs h fun L C s' m H' I' q hn f => ?_) fun _ s' hq => wpAny_pure (wpAny_pure hq))
  show wpAny _ _ (assign (.Name y py) X.env (.ref L)) _ _ _
  refine wpAny_assign_Name (store_ok2 (v := V.ref L) I' hN hy (.inl hyl) rfl (fun s2 I2 ⟨a, sb, ha⟩ => ?_) (.inr hyl))
  obtain ⟨f0, f1, f2, f3, f4, f5⟩ := f
  have haC : C ≠ a := by
    rcases ha with z | z
    · rw [z]; exact f1
    · exact fun e => f4 y a z e.symm
  refine ⟨m, hn.sameBut sb haC, fun h3 sb3 => ?_⟩
  exact ⟨_, H', I2.turned (t' := s2.toks) (fun b o hb e => (sb3.2 b hb).trans e) f0 f1 f3 f4 f5, q⟩
section
variable {scope : Scope} {own : List (Str × Nat)} {vs : List Nat} {mi : MI} {g : MG} {ek el : ME}
theorem n_dc (hi : NI X tg iter mi) (hg : ∀ z, NG (bl X scope z) tg vs g) (ht : ∀ z, NTs (bl X scope z) ifs mt) (hk : ∀ z, NE (bl X scope z) kx ek) (he : ∀ z, NE (bl X scope z) vx el) (hN : X.N.Nodup) (ok : BlkOk X.N X.env.scope scope own) (hvs : own.map (·.2) = vs := by rfl) (hc : X.calm = true := by rfl) (hs : ∀ x, foldedSetIterable iter X.env x = pure x := by intro _; rfl) :
    NE X (.DictComp kx vx [⟨tg, iter, ifs, 0⟩] scope pos) (eDc vs mi g mt ek el) := fun e s d s' h => by
  subst hvs
  refine PE.imp (pe_dc hc hN hi.fam ok (fun sh H C cl fp => (show PG (X.blk sh H scope (compEnvC scope cl C X.env) fp) tg (fun v σ H Q => ∃ s d e e', g d e = some e' ∧ tG (ba X) (own.map (·.2)) s d e e' v σ H Q) from (hg (sh, H, C, cl, fp)).fam))
    (fun sh H C cl fp => (⟨fun pins sh' σ H' Q I ⟨e, s, b, s', hm, q⟩ => (ht (sh, H, C, cl, fp) e s b s' hm).run pins sh' σ H' Q I q⟩ : PTs _ ifs (fun σ H Q => ∃ e s b s', mt e s = some (b, s') ∧ tT (ba X) e s b s' σ H Q)))
    (fun sh H C cl fp => (show PE (X.blk sh H scope (compEnvC scope cl C X.env) fp) kx (fun σ H Q => ∃ e s d s', ek e s = some (d, s') ∧ tE (ba X) e s d s' σ H Q) from (hk (sh, H, C, cl, fp)).fam))
    (fun sh H C cl fp => (show PE (X.blk sh H scope (compEnvC scope cl C X.env) fp) vx (fun σ H Q => ∃ e s d s', el e s = some (d, s') ∧ tE (ba X) e s d s' σ H Q) from (he (sh, H, C, cl, fp)).fam)) hs) ?_
  exact dc_run h (fun items ck s1 σ H R h1 h2 => ⟨e, s, items, ck, s1, h1, h2⟩) (fun s d e e' v σ H Q h1 h2 => ⟨s, d, e, e', h1, h2⟩) (fun e s b s' σ H Q h1 h2 => ⟨e, s, b, s', h1, h2⟩) (fun e s d s' σ H Q h1 h2 => ⟨e, s, d, s', h1, h2⟩) (fun e s d s' σ H Q h1 h2 => ⟨e, s, d, s', h1, h2⟩)
theorem ns_setDc {y : Str} {py spos : Pos} (i : Nat) (hi : NI X tg iter mi) (hg : ∀ z, NG (bl X scope z) tg vs g) (ht : ∀ z, NTs (bl X scope z) ifs mt) (hk : ∀ z, NE (bl X scope z) kx ek) (he : ∀ z, NE (bl X scope z) vx el) (hN : X.N.Nodup) (ok : BlkOk X.N X.env.scope scope own) (hvs : own.map (·.2) = vs := by rfl) (hc : X.calm = true := by rfl) (hs : ∀ x, foldedSetIterable iter X.env x = pure x := by intro _; rfl)
    (hy : X.N[i]? = some y := by rfl) (hyl : X.env.scope.names.lookup y = some .local := by rfl) (hsw : swapsWith (.DictComp kx vx [⟨tg, iter, ifs, 0⟩] scope pos) (some (.Name y py)) spos.line X.env = pure true := by rfl) :
    NS X (.Assign [.Name y py] (.DictComp kx vx [⟨tg, iter, ifs, 0⟩] scope pos) spos) (sSet i (eDc vs mi g mt ek el)) := fun e s fl e' s' b hm hb => by
  subst hvs
  unfold sSet at hm
  split at hm
  · rename_i d s1 h
    cases hm
    refine Z.PS.imp (ps_setDc hc hN hy hyl hsw hi.fam ok (fun sh H C cl fp => (show PG (X.blk sh H scope (compEnvC scope cl C X.env) fp) tg (fun v σ H Q => ∃ s d e e', g d e = some e' ∧ tG (ba X) (own.map (·.2)) s d e e' v σ H Q) from (hg (sh, H, C, cl, fp)).fam))
    (fun sh H C cl fp => (⟨fun pins sh' σ H' Q I ⟨e, s, b, s', hm, q⟩ => (ht (sh, H, C, cl, fp) e s b s' hm).run pins sh' σ H' Q I q⟩ : PTs _ ifs (fun σ H Q => ∃ e s b s', mt e s = some (b, s') ∧ tT (ba X) e s b s' σ H Q)))
    (fun sh H C cl fp => (show PE (X.blk sh H scope (compEnvC scope cl C X.env) fp) kx (fun σ H Q => ∃ e s d s', ek e s = some (d, s') ∧ tE (ba X) e s d s' σ H Q) from (hk (sh, H, C, cl, fp)).fam))
    (fun sh H C cl fp => (show PE (X.blk sh H scope (compEnvC scope cl C X.env) fp) vx (fun σ H Q => ∃ e s d s', el e s = some (d, s') ∧ tE (ba X) e s d s' σ H Q) from (he (sh, H, C, cl, fp)).fam)) hs) fun Dn σ H ⟨w, G, l, k⟩ => ?_
    refine dc_run h (fun items ck s1 σ H R h1 h2 => ⟨e, s, items, ck, s1, h1, h2⟩) (fun s d e e' v σ H Q h1 h2 => ⟨s, d, e, e', h1, h2⟩) (fun e s b s' σ H Q h1 h2 => ⟨e, s, b, s', h1, h2⟩) (fun e s d s' σ H Q h1 h2 => ⟨e, s, d, s', h1, h2⟩) (fun e s d s' σ H Q h1 h2 => ⟨e, s, d, s', h1, h2⟩) σ H _ ⟨w, G, l, fun v w1 H1 l1 g1 v1 => ?_⟩
    exact k w1 _ H1 (l1.cut b) g1 ((l.up l1).put i v1)
  · cases hm
end
/-! ### greatest and least of a list -/
def bMaxL : FA := qL fun ds => match intsOf ds with
  | some ns => match ns.max? with
    | some m => some (.int m)
    | none => none
  | none => none
def bMinL : FA := qL fun ds => match intsOf ds with
  | some ns => match ns.min? with
    | some m => some (.int m)
    | none => none
  | none => none
theorem b_maxL (hk : X.calm = true) : CalS X (.builtin "max") bMaxL := qL_ok (cr_max hk) fun ds x e p vs w s H Q h1 h2 G k => by
  split at e
  · rename_i ns e1
    split at e
    · rename_i m e2
      cases e
      rw [ints_eq e1] at h2
      cases vrs_ints h2
      obtain ⟨m1, m2⟩ := List.max?_eq_some_iff.mp e2
      refine ⟨p, ns, rfl, h1, List.length_pos_of_mem m1, fun z hz hb => ?_⟩
      have : z = m := Int.le_antisymm (m2 z hz) (hb m m1)
      subst this
      exact k _ vi
    · cases e
  · cases e
theorem b_minL (hk : X.calm = true) : CalS X (.builtin "min") bMinL := qL_ok (cr_min hk) fun ds x e p vs w s H Q h1 h2 G k => by
  split at e
  · rename_i ns e1
    split at e
    · rename_i m e2
      cases e
      rw [ints_eq e1] at h2
      cases vrs_ints h2
      obtain ⟨m1, m2⟩ := List.min?_eq_some_iff.mp e2
      refine ⟨p, ns, rfl, h1, List.length_pos_of_mem m1, fun z hz hb => ?_⟩
      have : z = m := Int.le_antisymm (hb m m1) (m2 z hz)
      subst this
      exact k _ vi
    · cases e
  · cases e
end
end N

namespace N
open PySem L2 PyProof.Rows
open Z (Ext dpUp dpsUp dpsLen dpsGet DxO KyD DEn Cl cut offv bl Dfn)
/-- an object that is not told of -/
theorem Ok.ign {B : Ba} {w : W} {s : Sto} {H : Hp} (g : Ok B w s H) {p : Addr} {o : HO} (hp : H p = none) : Ok B w s (upd H p o) := by
  refine ⟨fun a u q => ?_, g.lr, g.nd, fun a ha => ?_, fun j c a h1 h2 => ?_⟩
  · have := g.ext a u q
    rw [upd_ne (ne_of_none this hp)]
    exact this
  · obtain ⟨u, hu⟩ := g.al a ha
    exact ⟨u, by rw [upd_ne (ne_of_none hu hp)]; exact hu⟩
  · have ha := List.mem_of_getElem? h2
    have ne : a ≠ p := fun e => g.notin hp (e ▸ ha)
    have k := g.ce j c a h1 h2
    refine k.up (W.le.refl w) ?_ fun o ho => by rw [upd_ne ne]; exact ho
    by_cases hc : c = .gone
    · exact .inr hc
    · exact .inl (k.none hc)
section
variable {X : Cx} {ex a b c tg iter tg1 iter1 elt e : Expr} {es ifs ifs1 elts : List Expr} {st : Stmt} {rest body orelse : List Stmt} {m ma mb mc : ME} {ms : MA} {mt mu : MT} {pos p q p2 tpos : Pos} {M M1 M2 : MS}

/-! ### sorted(set(xs)), xs a list of tuples -/
structure SetOk (ds : List PyData) : Prop where
  t : ∀ d ∈ ds, Z.isTup d = true ∧ Z.kOK d = true ∧ Z.dep d ≤ 8
  few : ds.length < 64
  s : SrtOk ds
open Classical in
noncomputable def eSrtSet (own : Bool) (m : ME) : ME := fun e s => match m e s with
  | some (d, s1) => match asL s1 d with
    | some ds => match data ds with
      | some xs => if SetOk xs then mkL own s1 ((Z.srt (Z.dd xs)).map .d) else none
      | none => none
    | none => none
  | none => none
theorem n_srtSet {own : Bool} (hu : X.A.units + 64 < cLine) (ha : NE X e m) (m1 : X.mg "sorted" = none) (m2 : X.mg "set" = none) (hk : X.calm = true := by rfl)
    (c1 : Cl X "sorted" (.Call (.Name "set" p2) [e] [] q) [] pos := by exact ⟨rfl, rfl, rfl⟩) (c2 : Cl X "set" e [] q := by exact ⟨rfl, rfl, rfl⟩) :
    NE X (.Call (.Name "sorted" p) [.Call (.Name "set" p2) [e] [] q] [] pos) (eSrtSet own m) := fun el s d s' h => by
  unfold eSrtSet at h
  split at h
  · rename_i d1 s1 e1
    split at h
    · rename_i ds e2
      split at h
      · rename_i xs e3
        split at h
        · rename_i hs
          obtain ⟨ht, few, al, so, hd⟩ := hs
          refine PE.imp (pe_callB (Z.cr_sortSet hk) c1.1 m1 (by decide +kernel) (pa_cons (pe_callTy (Z.cr_setD hk (by omega)) c2.1 m2 (by decide +kernel) (pa_cons (ha _ _ _ _ e1) pa_nil c2.2.1) (by decide) (by decide) c2.2.1 c2.2.2) pa_nil c1.2.1) (by decide) (by decide) c1.2.1 c1.2.2) fun σ H Q ⟨w, g, l, k⟩ => ?_
          refine ⟨w, g, l, fun u w1 H1 l1 g1 v1 => ?_⟩
          obtain ⟨lp, vs, rfl, hS, hv⟩ := asL_ok e2 g1 v1
          rw [data_eq e3] at hv
          have hda := VRs.data.mp hv
          obtain ⟨ks, e4, e5, hks⟩ := Z.ks_of hda fun d m => (ht d m).1
          subst e4 e5
          have ky : ∀ {H' : Hp}, Ext w1.F H' → ∀ p ∈ ks, KyD X.K H' p.1 p.2 := fun x p m => ⟨dpUp x _ _ (hks p m), (ht _ (List.mem_map.mpr ⟨p, m, rfl⟩)).2⟩
          refine ⟨lp, ks, rfl, hS, ky g1.ext, by simpa using few, fun a L ha1 h2 h3 h4 => ?_⟩
          have g2 := g1.ign (o := Z.SxO X.w a L) ha1
          have pm : (L.map (·.2)).Perm (Z.dd (ks.map (·.2))) := Z.dd_perm h4 fun x => by
            constructor
            · intro m
              obtain ⟨p, m1, e⟩ := List.mem_map.mp m
              exact List.mem_map.mpr ⟨p, h2 p m1, e⟩
            · intro m
              obtain ⟨p, m1, e⟩ := List.mem_map.mp m
              rw [← e]
              exact h3 p m1
          have sub : ∀ d ∈ L.map (·.2), d ∈ ks.map (·.2) := fun d m => by
            obtain ⟨p, m1, e⟩ := List.mem_map.mp m
            exact List.mem_map.mpr ⟨p, h2 p m1, e⟩
          have al2 : PySem.W.AllAlike (L.map (·.2)) := fun d m d' m' => al d (sub d m) d' (sub d' m')
          show Z.rSortSet X.K X.w X.A.units [V.ref a] _ Q
          refine ⟨a, L, rfl, upd_same, fun p m => ky g2.ext p (h2 p m), al2, ?_, fun p m => ?_, fun b M pM eM hb => ?_⟩
          · exact so.sub sub
          · have := hd p.2 (List.mem_map.mpr ⟨p, h2 p m, rfl⟩)
            omega
          · have res : DpAll X.K w1.F (M.map fun p => V.ref p.1) (M.map (·.2)) := Z.dps_of_ks (ks := M) fun p m => hks p (h2 p (pM.mem_iff.mp m))
            rw [eM, Z.srt_eq al2 pm] at res
            obtain ⟨w3, l3, g3, v3⟩ := mkL_ok h g2 hb (VRs.data.mpr res)
            exact k _ w3 _ (l1.trans l3) g3 v3
        · cases h
      · cases h
    · cases h
  · cases h

/-! ### comprehensions with two fors -/
open Classical in
noncomputable def lc2L (k : Nat) (ck : Option (Nat × List D)) (g : MG) (mt : MT) (mi1 : MI) (g1 : MG) (mt1 : MT) (el : ME) (vs1 : List Nat) (e0 : Lo) : List D → Sto → Option Sto
  | [], s => if chkOk ck s then some s else none
  | x :: xs, s => if chkOk ck s then match g x e0 with
      | some e1 => match mt e1 s with
        | some (true, s1) => match mi1 e1 s1 with
          | some (items1, ck1, s2) => match lcL k ck1 g1 mt1 el (wipeN e1 vs1) items1 s2 with
            | some s3 => lc2L k ck g mt mi1 g1 mt1 el vs1 e0 xs s3
            | none => none
          | none => none
        | some (false, s1) => lc2L k ck g mt mi1 g1 mt1 el vs1 e0 xs s1
        | none => none
      | none => none
    else none
noncomputable def eLc2 (own : Bool) (vs vs1 : List Nat) (mi : MI) (g : MG) (mt : MT) (mi1 : MI) (g1 : MG) (mt1 : MT) (el : ME) : ME := fun e s => match mi e s with
  | some (items, ck, s1) => match lc2L s1.length ck g mt mi1 g1 mt1 el vs1 (wipeN e vs) items (s1 ++ [.lst []]) with
    | some s2 => lcFin own s1 s2
    | none => none
  | none => none
theorem lc2_run {mi mi1 : MI} {g g1 : MG} {mt1 : MT} {el : ME} {own : Bool} {vs vs1 : List Nat} {e : Lo} {s s' : Sto} {d : D} (h : eLc2 own vs vs1 mi g mt mi1 g1 mt1 el e s = some (d, s')) {wi wi1 : TI} (hw : ∀ items ck s1 σ H R, mi e s = some (items, ck, s1) → tI (ba X) e s items ck s1 σ H R → wi σ H R)
    (hw1 : ∀ e s items ck s1 σ H R, mi1 e s = some (items, ck, s1) → tI (ba X) e s items ck s1 σ H R → wi1 σ H R)
    {G G1 : TG} {TT' TT1 : TT} {EE : TE} (hG : ∀ s d e e' v σ H Q, g d e = some e' → tG (ba X) vs s d e e' v σ H Q → G v σ H Q) (hG1 : ∀ s d e e' v σ H Q, g1 d e = some e' → tG (ba X) vs1 s d e e' v σ H Q → G1 v σ H Q)
    (hT : ∀ e s b s' σ H Q, mt e s = some (b, s') → tT (ba X) e s b s' σ H Q → TT' σ H Q) (hT1 : ∀ e s b s' σ H Q, mt1 e s = some (b, s') → tT (ba X) e s b s' σ H Q → TT1 σ H Q) (hE : ∀ e s d s' σ H Q, el e s = some (d, s') → tE (ba X) e s d s' σ H Q → EE σ H Q) :
    ∀ σ H Q, tE (ba X) e s d s' σ H Q → tLc2 wi G TT' wi1 G1 TT1 EE vs vs1 σ H Q := by
  intro σ H Q ⟨w, g0, l, k⟩
  unfold eLc2 at h
  split at h
  · rename_i items ck s1 e1
    split at h
    · rename_i sF eF
      refine hw _ _ _ _ _ _ e1 ⟨w, g0, l, fun J w1 H1 l1 g1' ck1 wk D hD => ?_⟩
      have gD : Ok (ba X) ⟨w1.F, w1.ρ ++ [D]⟩ (s1 ++ [.lst []]) (upd H1 D (.lst [])) := g1'.new hD ⟨ext_none g1'.ext hD, [], upd_same, trivial⟩
      have lD : w1.le ⟨w1.F, w1.ρ ++ [D]⟩ := Ok.new_le
      have atD : (w1.ρ ++ [D])[s1.length]? = some D := by rw [← g1'.lr, List.getElem?_append_right (Nat.le_refl _), Nat.sub_self]; rfl
      refine ⟨fun i m H' => m = items.length - i ∧ i ≤ items.length ∧ ∃ s2 w2, lc2L s1.length ck g mt mi1 g1 mt1 el vs1 (wipeN e vs) (items.drop i) s2 = some sF ∧ W.le ⟨w1.F, w1.ρ ++ [D]⟩ w2 ∧ Ok (ba X) w2 s2 H', ⟨_, rfl, Nat.zero_le _, _, _, eF, W.le.refl _, gD⟩, ?_⟩
      rintro i m H' ⟨rfl, hi', s2, w2, hf, l2, g2⟩
      have slw : ∀ {w' : W}, W.le ⟨w1.F, w1.ρ ++ [D]⟩ w' → Sl (ba X) w' (wipeN e vs) (wipe σ vs) := fun h => (l.up ((l1.trans lD).trans h)).wipe vs
      by_cases hlt : i < items.length
      · rw [List.drop_eq_getElem_cons hlt] at hf
        unfold lc2L at hf
        split at hf
        · rename_i hck
          obtain ⟨wk1, _⟩ := wk w2 s2 H' (lD.trans l2) g2 hck
          obtain ⟨go, yl⟩ := wk1 i items[i] (List.getElem?_eq_getElem hlt)
          refine .inr ⟨go, fun H3 => ∃ s3 w3, lc2L s1.length ck g mt mi1 g1 mt1 el vs1 (wipeN e vs) (items.drop (i + 1)) s3 = some sF ∧ W.le ⟨w1.F, w1.ρ ++ [D]⟩ w3 ∧ Ok (ba X) w3 s3 H3, fun H3 h3 => ⟨items.length - (i + 1), by omega, rfl, hlt, h3⟩, fun v H4 y => ?_⟩
          obtain ⟨w4, l4, g4, v4⟩ := yl v H4 y
          cases hgx : g items[i] (wipeN e vs) with
          | none => rw [hgx] at hf; cases hf
          | some e3 =>
            rw [hgx] at hf
            refine hG _ _ _ _ _ _ _ _ hgx ⟨w4, g4, slw (l2.trans l4), v4, fun σ5 o l5 => ⟨Z.wipe_off o, ?_⟩⟩
            cases hM : mt e3 s2 with
            | none => simp only [hM] at hf; cases hf
            | some z =>
              obtain ⟨bb, s5⟩ := z
              simp only [hM] at hf
              refine hT _ _ _ _ _ _ _ hM ⟨w4, g4, l5, fun w6 H6 l6 g6 => ?_⟩
              cases bb with
              | false =>
                dsimp only
                rw [if_neg Bool.false_ne_true]
                exact ⟨s5, w6, hf, (l2.trans l4).trans l6, g6⟩
              | true =>
                dsimp only
                rw [if_pos rfl]
                cases hI1 : mi1 e3 s5 with
                | none => simp only [hI1] at hf; cases hf
                | some z =>
                  obtain ⟨items1, ckI, s7⟩ := z
                  simp only [hI1] at hf
                  cases hL : lcL s1.length ckI g1 mt1 el (wipeN e3 vs1) items1 s7 with
                  | none => simp only [hL] at hf; cases hf
                  | some sI =>
                    simp only [hL] at hf
                    refine hw1 _ _ _ _ _ _ _ _ hI1 ⟨w6, g6, l5.up l6, fun J1 w7 H7 l7 g7 ck7 wkI => ?_⟩
                    have l17 := ((l2.trans l4).trans l6).trans l7
                    refine ⟨fun j kk H' => kk = items1.length - j ∧ j ≤ items1.length ∧ ∃ s8 w8, lcL s1.length ckI g1 mt1 el (wipeN e3 vs1) (items1.drop j) s8 = some sI ∧ w7.le w8 ∧ Ok (ba X) w8 s8 H', ⟨_, rfl, Nat.zero_le _, s7, w7, hL, W.le.refl _, g7⟩, ?_⟩
                    rintro j kk H8 ⟨rfl, hj', s8, w8, hf8, l8, g8⟩
                    by_cases hlj : j < items1.length
                    · rw [List.drop_eq_getElem_cons hlj] at hf8
                      unfold lcL at hf8
                      split at hf8
                      · rename_i hckj
                        obtain ⟨wkJ, _⟩ := wkI w8 s8 H8 l8 g8 hckj
                        obtain ⟨goj, ylj⟩ := wkJ j items1[j] (List.getElem?_eq_getElem hlj)
                        refine .inr ⟨goj, fun H3 => ∃ s3 w3, lcL s1.length ckI g1 mt1 el (wipeN e3 vs1) (items1.drop (j + 1)) s3 = some sI ∧ w7.le w3 ∧ Ok (ba X) w3 s3 H3, fun H3 h3 => ⟨items1.length - (j + 1), by omega, rfl, hlj, h3⟩, fun v9 H9 y9 => ?_⟩
                        obtain ⟨w9, l9, g9, v9'⟩ := ylj v9 H9 y9
                        cases hgy : g1 items1[j] (wipeN e3 vs1) with
                        | none => rw [hgy] at hf8; cases hf8
                        | some e9 =>
                          rw [hgy] at hf8
                          have sl9 : Sl (ba X) w9 (wipeN e3 vs1) (wipe σ5 vs1) := (l5.up (((l6.trans l7).trans l8).trans l9)).wipe vs1
                          refine hG1 _ _ _ _ _ _ _ _ hgy ⟨w9, g9, sl9, v9', fun σ9 o9 lo9 => ⟨Z.wipe_off o9, ?_⟩⟩
                          cases hM1 : mt1 e9 s8 with
                          | none => simp only [hM1] at hf8; cases hf8
                          | some z =>
                            obtain ⟨b2, s10⟩ := z
                            simp only [hM1] at hf8
                            refine hT1 _ _ _ _ _ _ _ hM1 ⟨w9, g9, lo9, fun w10 H10 l10 g10 => ?_⟩
                            cases b2 with
                            | false =>
                              dsimp only
                              rw [if_neg Bool.false_ne_true]
                              exact ⟨s10, w10, hf8, (l8.trans l9).trans l10, g10⟩
                            | true =>
                              dsimp only
                              rw [if_pos rfl]
                              cases hE2 : el e9 s10 with
                              | none => simp only [hE2] at hf8; cases hf8
                              | some z =>
                                obtain ⟨yd, s11⟩ := z
                                simp only [hE2] at hf8
                                refine hE _ _ _ _ _ _ _ hE2 ⟨w10, g10, lo9.up l10, fun u w11 H11 l11 g11 v11 => ?_⟩
                                have l711 := ((l8.trans l9).trans l10).trans l11
                                have at11 : w11.ρ[s1.length]? = some D := pre_get (l17.trans l711).ρ atD
                                split at hf8
                                · rename_i acc e8
                                  split at hf8
                                  · rename_i hl
                                    obtain ⟨a9, vs9, q1, q2, q3, q4⟩ := chg_lst (v := .ref D) g11 ⟨D, at11, rfl⟩ e8
                                    cases q1
                                    exact ⟨vs9, q2, by rw [q3.len]; exact Nat.lt_trans hl lim_lt, _, w11, hf8, l711, q4 _ _ (q3.app ⟨v11, trivial⟩)⟩
                                  · cases hf8
                                · cases hf8
                      · cases hf8
                    · have ej : j = items1.length := by omega
                      subst ej
                      rw [List.drop_length] at hf8
                      unfold lcL at hf8
                      split at hf8
                      · rename_i hckj
                        cases hf8
                        obtain ⟨_, stj⟩ := wkI w8 _ H8 l8 g8 hckj
                        exact .inl ⟨stj, _, w8, hf, l17.trans l8, g8⟩
                      · cases hf8
        · cases hf
      · have e' : i = items.length := by omega
        subst e'
        rw [List.drop_length] at hf
        unfold lc2L at hf
        split at hf
        · rename_i hck
          cases hf
          obtain ⟨_, st⟩ := wk w2 _ H' (lD.trans l2) g2 hck
          obtain ⟨w3, a1, a2, a3⟩ := mkFin_ok h g1' (lD.trans l2) (pre_get l2.ρ atD) g2
          exact .inl ⟨st, k _ w3 H' (l1.trans a1) a2 a3⟩
        · cases hf
    · cases h
  · cases h
section
variable {scope : Scope} {own : List (Str × Nat)} {ow : Bool} {vs vs1 : List Nat} {mi mi1 : MI} {g g1 : MG} {mt1 : MT} {el : ME}
theorem n_lc2 (hi : NI X tg iter mi) (hg : ∀ z, NG (bl X scope z) tg vs g) (ht : ∀ z, NTs (bl X scope z) ifs mt) (hi1 : ∀ z, NI (bl X scope z) tg1 iter1 mi1) (hg1 : ∀ z, NG (bl X scope z) tg1 vs1 g1) (ht1 : ∀ z, NTs (bl X scope z) ifs1 mt1) (he : ∀ z, NE (bl X scope z) elt el) (hN : X.N.Nodup) (ok : BlkOk X.N X.env.scope scope own) (hvs : own.map (·.2) = vs := by rfl) (hv : ∀ i ∈ vs1, i ∈ own.map (·.2) := by decide) (hc : X.calm = true := by rfl) (hs : ∀ x, foldedSetIterable iter X.env x = pure x := by intro _; rfl) (hs1 : ∀ env x, foldedSetIterable iter1 env x = pure x := by intro _ _; rfl) :
    NE X (.ListComp elt [⟨tg, iter, ifs, 0⟩, ⟨tg1, iter1, ifs1, 0⟩] scope pos) (eLc2 ow vs vs1 mi g mt mi1 g1 mt1 el) := fun e s d s' h => by
  subst hvs
  refine PE.imp (pe_lc2 hc hN hi.fam ok hv (fun sh H C cl fp => (show PG (X.blk sh H scope (compEnvC scope cl C X.env) fp) tg (fun v σ H Q => ∃ s d e e', g d e = some e' ∧ tG (ba X) (own.map (·.2)) s d e e' v σ H Q) from (hg (sh, H, C, cl, fp)).fam))
    (fun sh H C cl fp => (⟨fun pins sh' σ H' Q I ⟨e, s, b, s', hm, q⟩ => (ht (sh, H, C, cl, fp) e s b s' hm).run pins sh' σ H' Q I q⟩ : PTs _ ifs (fun σ H Q => ∃ e s b s', mt e s = some (b, s') ∧ tT (ba X) e s b s' σ H Q)))
    (fun sh H C cl fp => (show PI (X.blk sh H scope (compEnvC scope cl C X.env) fp) tg1 iter1 (fun σ H R => ∃ e s items ck s1, mi1 e s = some (items, ck, s1) ∧ tI (ba X) e s items ck s1 σ H R) from (hi1 (sh, H, C, cl, fp)).fam))
    (fun sh H C cl fp => (show PG (X.blk sh H scope (compEnvC scope cl C X.env) fp) tg1 (fun v σ H Q => ∃ s d e e', g1 d e = some e' ∧ tG (ba X) vs1 s d e e' v σ H Q) from (hg1 (sh, H, C, cl, fp)).fam))
    (fun sh H C cl fp => (⟨fun pins sh' σ H' Q I ⟨e, s, b, s', hm, q⟩ => (ht1 (sh, H, C, cl, fp) e s b s' hm).run pins sh' σ H' Q I q⟩ : PTs _ ifs1 (fun σ H Q => ∃ e s b s', mt1 e s = some (b, s') ∧ tT (ba X) e s b s' σ H Q)))
    (fun sh H C cl fp => (show PE (X.blk sh H scope (compEnvC scope cl C X.env) fp) elt (fun σ H Q => ∃ e s d s', el e s = some (d, s') ∧ tE (ba X) e s d s' σ H Q) from (he (sh, H, C, cl, fp)).fam)) hs hs1) ?_
  exact lc2_run h (fun items ck s1 σ H R h1 h2 => ⟨e, s, items, ck, s1, h1, h2⟩) (fun e s items ck s1 σ H R h1 h2 => ⟨e, s, items, ck, s1, h1, h2⟩) (fun s d e e' v σ H Q h1 h2 => ⟨s, d, e, e', h1, h2⟩) (fun s d e e' v σ H Q h1 h2 => ⟨s, d, e, e', h1, h2⟩) (fun e s b s' σ H Q h1 h2 => ⟨e, s, b, s', h1, h2⟩) (fun e s b s' σ H Q h1 h2 => ⟨e, s, b, s', h1, h2⟩) (fun e s d s' σ H Q h1 h2 => ⟨e, s, d, s', h1, h2⟩)
theorem ns_setLc2 {y : Str} {py spos : Pos} (i : Nat) (hi : NI X tg iter mi) (hg : ∀ z, NG (bl X scope z) tg vs g) (ht : ∀ z, NTs (bl X scope z) ifs mt) (hi1 : ∀ z, NI (bl X scope z) tg1 iter1 mi1) (hg1 : ∀ z, NG (bl X scope z) tg1 vs1 g1) (ht1 : ∀ z, NTs (bl X scope z) ifs1 mt1) (he : ∀ z, NE (bl X scope z) elt el) (hN : X.N.Nodup) (ok : BlkOk X.N X.env.scope scope own) (hvs : own.map (·.2) = vs := by rfl) (hv : ∀ i ∈ vs1, i ∈ own.map (·.2) := by decide) (hc : X.calm = true := by rfl) (hs : ∀ x, foldedSetIterable iter X.env x = pure x := by intro _; rfl) (hs1 : ∀ env x, foldedSetIterable iter1 env x = pure x := by intro _ _; rfl)
    (hy : X.N[i]? = some y := by rfl) (hyl : X.env.scope.names.lookup y = some .local := by rfl) (hsw : swapsWith (.ListComp elt [⟨tg, iter, ifs, 0⟩, ⟨tg1, iter1, ifs1, 0⟩] scope pos) (some (.Name y py)) spos.line X.env = pure true := by rfl) :
    NS X (.Assign [.Name y py] (.ListComp elt [⟨tg, iter, ifs, 0⟩, ⟨tg1, iter1, ifs1, 0⟩] scope pos) spos) (sSet i (eLc2 ow vs vs1 mi g mt mi1 g1 mt1 el)) := fun e s fl e' s' b hm hb => by
  subst hvs
  unfold sSet at hm
  split at hm
  · rename_i d s1 h
    cases hm
    refine Z.PS.imp (ps_setLc2 hc hN hy hyl hsw hi.fam ok hv (fun sh H C cl fp => (show PG (X.blk sh H scope (compEnvC scope cl C X.env) fp) tg (fun v σ H Q => ∃ s d e e', g d e = some e' ∧ tG (ba X) (own.map (·.2)) s d e e' v σ H Q) from (hg (sh, H, C, cl, fp)).fam))
    (fun sh H C cl fp => (⟨fun pins sh' σ H' Q I ⟨e, s, b, s', hm, q⟩ => (ht (sh, H, C, cl, fp) e s b s' hm).run pins sh' σ H' Q I q⟩ : PTs _ ifs (fun σ H Q => ∃ e s b s', mt e s = some (b, s') ∧ tT (ba X) e s b s' σ H Q)))
    (fun sh H C cl fp => (show PI (X.blk sh H scope (compEnvC scope cl C X.env) fp) tg1 iter1 (fun σ H R => ∃ e s items ck s1, mi1 e s = some (items, ck, s1) ∧ tI (ba X) e s items ck s1 σ H R) from (hi1 (sh, H, C, cl, fp)).fam))
    (fun sh H C cl fp => (show PG (X.blk sh H scope (compEnvC scope cl C X.env) fp) tg1 (fun v σ H Q => ∃ s d e e', g1 d e = some e' ∧ tG (ba X) vs1 s d e e' v σ H Q) from (hg1 (sh, H, C, cl, fp)).fam))
    (fun sh H C cl fp => (⟨fun pins sh' σ H' Q I ⟨e, s, b, s', hm, q⟩ => (ht1 (sh, H, C, cl, fp) e s b s' hm).run pins sh' σ H' Q I q⟩ : PTs _ ifs1 (fun σ H Q => ∃ e s b s', mt1 e s = some (b, s') ∧ tT (ba X) e s b s' σ H Q)))
    (fun sh H C cl fp => (show PE (X.blk sh H scope (compEnvC scope cl C X.env) fp) elt (fun σ H Q => ∃ e s d s', el e s = some (d, s') ∧ tE (ba X) e s d s' σ H Q) from (he (sh, H, C, cl, fp)).fam)) hs hs1) fun Dn σ H ⟨w, G, l, k⟩ => ?_
    refine lc2_run h (fun items ck s1 σ H R h1 h2 => ⟨e, s, items, ck, s1, h1, h2⟩) (fun e s items ck s1 σ H R h1 h2 => ⟨e, s, items, ck, s1, h1, h2⟩) (fun s d e e' v σ H Q h1 h2 => ⟨s, d, e, e', h1, h2⟩) (fun s d e e' v σ H Q h1 h2 => ⟨s, d, e, e', h1, h2⟩) (fun e s b s' σ H Q h1 h2 => ⟨e, s, b, s', h1, h2⟩) (fun e s b s' σ H Q h1 h2 => ⟨e, s, b, s', h1, h2⟩) (fun e s d s' σ H Q h1 h2 => ⟨e, s, d, s', h1, h2⟩) σ H _ ⟨w, G, l, fun v w1 H1 l1 g1 v1 => ?_⟩
    exact k w1 _ H1 (l1.cut b) g1 ((l.up l1).put i v1)
  · cases hm
end
end
end N

namespace N
open PySem L2 PyProof.Rows

/-! ### what the functions over stores answer: lemmas for specs -/
theorem safe_self (s : Sto) : Safe s s := ⟨Nat.le_refl _, fun j c _ h => .inl h⟩
theorem safe_app (s g : Sto) : Safe s (s ++ g) := ⟨by simp, fun j c hj h => .inl (by rwa [List.getElem?_append_left hj] at h)⟩
@[simp] theorem trim_self (s : Sto) : trim s s = s := by unfold trim; rw [if_pos (safe_self s), List.take_length]
@[simp] theorem trim_app (s g : Sto) : trim s (s ++ g) = s := by unfold trim; rw [if_pos (safe_app s g), List.take_left]
theorem safe_set {s g : Sto} {j : Nat} {c : Cell} (h : c.below s.length) : Safe s ((s ++ g).set j c) := by
  refine ⟨by simp, fun k c' hk hc => ?_⟩
  by_cases e : k = j
  · subst e
    rw [List.getElem?_set_self (by simp; omega)] at hc
    cases hc
    exact .inr h
  · rw [List.getElem?_set_ne (Ne.symm e), List.getElem?_append_left hk] at hc
    exact .inl hc
theorem trim_set {s g : Sto} {j : Nat} {c : Cell} (h : c.below s.length) : trim s ((s ++ g).set j c) = (s.set j c) := by
  unfold trim
  rw [if_pos (safe_set h), List.take_set, List.take_left]
theorem trim_set' {s : Sto} {j : Nat} {c : Cell} (h : c.below s.length) : trim s (s.set j c) = s.set j c := by
  have := trim_set (s := s) (g := []) (j := j) h
  rwa [List.append_nil] at this
@[simp] theorem trimE_self (s : Sto) (e : Lo) : trimE s e s = s := by unfold trimE; split <;> simp
theorem trimE_app {s g : Sto} {e : Lo} (h : LoBelow s.length e) : trimE s e (s ++ g) = s := by unfold trimE; rw [if_pos h, trim_app]
@[simp] theorem ret_d (own : Bool) (s : Sto) (x : PyData) (s' : Sto) : ret own s (.d x) s' = some (.d x, trim s s') := rfl
theorem ret_lst (s : Sto) (xs : List PyData) : ret false s (.r s.length) (s ++ [.lst (xs.map .d)]) = some (.d (.list xs), s) := by
  unfold ret
  simp only [Nat.lt_irrefl, if_false, Bool.false_eq_true]
  rw [List.getElem?_append_right (Nat.le_refl _), Nat.sub_self]
  simp only [List.getElem?_cons_zero, data_map]
  congr 2
  rw [List.set_append_right _ _ (Nat.le_refl _)]
  exact trim_app _ _
theorem ret_lst' (s g : Sto) (xs : List PyData) : ret false s (.r s.length) (s ++ (.lst (xs.map .d) :: g)) = some (.d (.list xs), s) := by
  unfold ret
  simp only [Nat.lt_irrefl, if_false, Bool.false_eq_true]
  rw [List.getElem?_append_right (Nat.le_refl _), Nat.sub_self]
  simp only [List.getElem?_cons_zero, data_map]
  congr 2
  rw [List.set_append_right _ _ (Nat.le_refl _)]
  exact trim_app _ _
/-! ### loops -/
theorem ck_none (s : Sto) : chkOk none s := trivial
/-- a for whose turns are known -/
theorem forL_nx {ck : Option (Nat × List D)} {T : D → MS} (I : Nat → Lo) (J : Nat → Sto) : ∀ {items : List D} (n : Nat), (∀ i x, items[i]? = some x → chkOk ck (J (n + i)) ∧ T x (I (n + i)) (J (n + i)) = some (.nx, I (n + i + 1), J (n + i + 1))) → chkOk ck (J (n + items.length)) →
    forL ck T items (I n) (J n) = some (.nx, I (n + items.length), J (n + items.length))
  | [], n, h, he => by
    unfold forL
    rw [if_pos (by simpa using he)]
    rfl
  | x :: xs, n, h, he => by
    unfold forL
    obtain ⟨h1, h2⟩ := h 0 x rfl
    rw [if_pos (by simpa using h1)]
    rw [show n + 0 = n from rfl] at h2
    simp only [h2]
    have := forL_nx I J (items := xs) (n + 1) (fun i y hy => by
      have := h (i + 1) y (by simpa using hy)
      rw [show n + (i + 1) = n + 1 + i by omega] at this
      exact this) (by rw [show n + 1 + xs.length = n + (x :: xs).length by simp; omega]; exact he)
    rw [this]
    congr 2 <;> (rw [List.length_cons]; congr 1 <;> (congr 1; omega))
theorem forL_fold {T : D → MS} (I : Nat → Lo) (J : Nat → Sto) {items : List D} (h : ∀ i x, items[i]? = some x → T x (I i) (J i) = some (.nx, I (i + 1), J (i + 1))) :
    forL none T items (I 0) (J 0) = some (.nx, I items.length, J items.length) := by
  have := forL_nx (ck := none) (T := T) I J (items := items) 0 (fun i x hx => ⟨ck_none _, by rw [Nat.zero_add]; exact h i x hx⟩) (ck_none _)
  rwa [Nat.zero_add] at this
/-- .. whose state keeps something -/
theorem forL_inv {ck : Option (Nat × List D)} {T : D → MS} (Iv : Nat → Lo → Sto → Prop) : ∀ {items : List D} (n : Nat) {e : Lo} {s : Sto}, (∀ i x e s, items[i]? = some x → Iv (n + i) e s → chkOk ck s ∧ ∃ e' s', T x e s = some (.nx, e', s') ∧ Iv (n + i + 1) e' s') → (∀ e s, Iv (n + items.length) e s → chkOk ck s) → Iv n e s →
    ∃ e' s', forL ck T items e s = some (.nx, e', s') ∧ Iv (n + items.length) e' s'
  | [], n, e, s, h, he, h0 => by
    unfold forL
    rw [if_pos (he e s h0)]
    exact ⟨e, s, rfl, h0⟩
  | x :: xs, n, e, s, h, he, h0 => by
    unfold forL
    obtain ⟨h1, e1, s1, h2, h3⟩ := h 0 x e s rfl h0
    rw [if_pos h1]
    simp only [h2]
    have en : n + 1 + xs.length = n + (x :: xs).length := by simp; omega
    obtain ⟨e', s', h4, h5⟩ := forL_inv Iv (items := xs) (n + 1) (e := e1) (s := s1) (fun i y e s hy hi => by
      have := h (i + 1) y e s (by simpa using hy) (by rw [show n + (i + 1) = n + 1 + i by omega]; exact hi)
      rw [show n + (i + 1) = n + 1 + i by omega] at this
      exact this) (fun e s hi => he e s (by rw [← en]; exact hi)) h3
    exact ⟨e', s', h4, by rw [← en]; exact h5⟩
/-- a while: a measure falls -/
theorem whileL_inv {mt : MT} {M : MS} {dead : List Nat} (Iv : Nat → Lo → Sto → Prop) (Qv : Lo → Sto → Prop) (turn : ∀ m e s, Iv m e s → (∃ s1, mt e s = some (false, s1) ∧ Qv e s1) ∨ ∃ s1 e2 s2, mt e s = some (true, s1) ∧ (M e s1 = some (.nx, e2, s2) ∨ M e s1 = some (.ct, e2, s2)) ∧ ∃ m', m' < m ∧ Iv m' (wipeN e2 dead) (trimE s (wipeN e2 dead) s2)) :
    ∀ (m n : Nat) (e : Lo) (s : Sto), m < n → Iv m e s → ∃ e' s', whileL mt M dead n e s = some (.nx, e', s') ∧ Qv e' s' := by
  intro m
  induction m using Nat.strongRecOn with
  | _ m ih =>
    intro n e s hn hi
    obtain ⟨n, rfl⟩ : ∃ k, n = k + 1 := ⟨n - 1, by omega⟩
    unfold whileL
    rcases turn m e s hi with ⟨s1, h1, h2⟩ | ⟨s1, e2, s2, h1, h2, m', h3, h4⟩
    · rw [h1]; exact ⟨e, s1, rfl, h2⟩
    · rw [h1]
      obtain ⟨e', s', h5, h6⟩ := ih m' h3 n _ _ (by omega) h4
      rcases h2 with h2 | h2
      · simp only [h2]; exact ⟨e', s', h5, h6⟩
      · simp only [h2]; exact ⟨e', s', h5, h6⟩
/-! ### comprehensions whose turns leave the store -/
theorem lcL_pure {k : Nat} {ck : Option (Nat × List D)} {g : MG} {mt : MT} {el : ME} {e0 : Lo} {s : Sto} {α : Type} {enc : α → D} (f : α → D) (p : α → Bool) (hk : k = s.length) (hck : ∀ acc, chkOk ck (s ++ [.lst acc])) : ∀ (l : List α) (acc : List D), (∀ x ∈ l, ∀ acc, ∃ e1, g (enc x) e0 = some e1 ∧ mt e1 (s ++ [.lst acc]) = some (p x, s ++ [.lst acc]) ∧ (p x = true → el e1 (s ++ [.lst acc]) = some (f x, s ++ [.lst acc]))) → acc.length + l.length ≤ lim →
    lcL k ck g mt el e0 (l.map enc) (s ++ [.lst acc]) = some (s ++ [.lst (acc ++ (l.filter p).map f)])
  | [], acc, _, _ => by
    rw [List.map_nil]
    unfold lcL
    rw [if_pos (hck acc)]
    simp
  | x :: l, acc, h, hl => by
    obtain ⟨e1, h1, h2, h3⟩ := h x List.mem_cons_self acc
    rw [List.map_cons]
    unfold lcL
    rw [if_pos (hck acc)]
    simp only [h1, h2]
    rw [List.length_cons] at hl
    cases hp : p x with
    | false =>
      simp only []
      rw [lcL_pure f p hk hck l acc (fun y hy => h y (List.mem_cons_of_mem _ hy)) (by omega), List.filter_cons_of_neg (by simp [hp])]
    | true =>
      simp only [h3 hp]
      subst hk
      rw [List.getElem?_append_right (Nat.le_refl _), Nat.sub_self]
      simp only [List.getElem?_cons_zero]
      rw [if_pos (by omega), List.set_append_right _ _ (Nat.le_refl _), Nat.sub_self]
      simp only [List.set_cons_zero]
      rw [lcL_pure f p rfl hck l _ (fun y hy => h y (List.mem_cons_of_mem _ hy)) (by rw [List.length_append]; simp; omega), List.filter_cons_of_pos hp]
      simp
theorem lcFin_d (s : Sto) (xs : List PyData) : lcFin false s (s ++ [.lst (xs.map .d)]) = some (.d (.list xs), s) := by
  unfold lcFin
  rw [List.getElem?_append_right (Nat.le_refl _), Nat.sub_self]
  simp only [List.getElem?_cons_zero, data_map, Bool.false_eq_true, if_false]
  congr 2
  rw [List.set_append_right _ _ (Nat.le_refl _)]
  exact trim_app _ _
theorem lcFin_o (s : Sto) (ds : List D) : lcFin true s (s ++ [.lst ds]) = some (.r s.length, s ++ [.lst ds]) := by
  unfold lcFin
  rw [List.getElem?_append_right (Nat.le_refl _), Nat.sub_self]
  rfl
theorem eLc_d {vs : List Nat} {mi : MI} {g : MG} {mt : MT} {el : ME} {e : Lo} {s s1 : Sto} {α : Type} {enc : α → D} {l : List α} (f : α → PyData) (p : α → Bool) (hi : mi e s = some (l.map enc, none, s1)) (h : ∀ x ∈ l, ∀ acc, ∃ e1, g (enc x) (wipeN e vs) = some e1 ∧ mt e1 (s1 ++ [.lst acc]) = some (p x, s1 ++ [.lst acc]) ∧ (p x = true → el e1 (s1 ++ [.lst acc]) = some (.d (f x), s1 ++ [.lst acc]))) (hl : l.length ≤ lim) :
    eLc false vs mi g mt el e s = some (.d (.list ((l.filter p).map f)), s1) := by
  unfold eLc
  simp only [hi]
  rw [lcL_pure (fun x => .d (f x)) p rfl (fun _ => ck_none _) l [] h (by simpa using hl)]
  simp only [List.nil_append]
  have := lcFin_d s1 ((l.filter p).map f)
  rw [List.map_map] at this
  exact this
theorem eLc_o {vs : List Nat} {mi : MI} {g : MG} {mt : MT} {el : ME} {e : Lo} {s s1 : Sto} {α : Type} {enc : α → D} {l : List α} (f : α → D) (p : α → Bool) (hi : mi e s = some (l.map enc, none, s1)) (h : ∀ x ∈ l, ∀ acc, ∃ e1, g (enc x) (wipeN e vs) = some e1 ∧ mt e1 (s1 ++ [.lst acc]) = some (p x, s1 ++ [.lst acc]) ∧ (p x = true → el e1 (s1 ++ [.lst acc]) = some (f x, s1 ++ [.lst acc]))) (hl : l.length ≤ lim) :
    eLc true vs mi g mt el e s = some (.r s1.length, s1 ++ [.lst ((l.filter p).map f)]) := by
  unfold eLc
  simp only [hi]
  rw [lcL_pure f p rfl (fun _ => ck_none _) l [] h (by simpa using hl)]
  simp only [List.nil_append]
  exact lcFin_o _ _
theorem eLc_m {vs : List Nat} {mi : MI} {g : MG} {el : ME} {e : Lo} {s s1 : Sto} {α : Type} {enc : α → D} {l : List α} (f : α → PyData) (hi : mi e s = some (l.map enc, none, s1)) (h : ∀ x ∈ l, ∀ acc, ∃ e1, g (enc x) (wipeN e vs) = some e1 ∧ el e1 (s1 ++ [.lst acc]) = some (.d (f x), s1 ++ [.lst acc])) (hl : l.length ≤ lim) :
    eLc false vs mi g tTrue el e s = some (.d (.list (l.map f)), s1) := by
  have := eLc_d (mt := tTrue) f (fun _ => true) hi (fun x hx acc => by
    obtain ⟨e1, h1, h2⟩ := h x hx acc
    exact ⟨e1, h1, rfl, fun _ => h2⟩) hl
  rwa [List.filter_eq_self.mpr (fun _ _ => rfl)] at this
/-- .. whose turns change the store below: what is kept -/
theorem lcL_inv {k : Nat} {g : MG} {mt : MT} {el : ME} {e0 : Lo} {α : Type} {enc : α → D} (Iv : Nat → List D → Sto → Prop) (hk : ∀ i acc s, Iv i acc s → s.length = k) : ∀ (l : List α) (n : Nat) (acc : List D) (s : Sto), (∀ i x acc s, l[i]? = some x → Iv (n + i) acc s → ∃ e1, g (enc x) e0 = some e1 ∧ ((∃ s', mt e1 (s ++ [.lst acc]) = some (false, s' ++ [.lst acc]) ∧ Iv (n + i + 1) acc s') ∨
      ∃ s1 y s', mt e1 (s ++ [.lst acc]) = some (true, s1) ∧ el e1 s1 = some (y, s' ++ [.lst acc]) ∧ Iv (n + i + 1) (acc ++ [y]) s')) → acc.length + l.length ≤ lim → Iv n acc s →
    ∃ acc' s', lcL k none g mt el e0 (l.map enc) (s ++ [.lst acc]) = some (s' ++ [.lst acc']) ∧ Iv (n + l.length) acc' s'
  | [], n, acc, s, h, hl, h0 => by
    rw [List.map_nil]
    unfold lcL
    rw [if_pos (ck_none _)]
    exact ⟨acc, s, rfl, h0⟩
  | x :: l, n, acc, s, h, hl, h0 => by
    obtain ⟨e1, h1, h2⟩ := h 0 x acc s rfl h0
    rw [List.map_cons]
    unfold lcL
    rw [if_pos (ck_none _)]
    simp only [h1]
    rw [List.length_cons] at hl
    have en : n + 1 + l.length = n + (x :: l).length := by simp; omega
    have hh : ∀ i y acc s, l[i]? = some y → Iv (n + 1 + i) acc s → _ := fun i y acc s hy hi => by
      have := h (i + 1) y acc s (by simpa using hy) (by rw [show n + (i + 1) = n + 1 + i by omega]; exact hi)
      rw [show n + (i + 1) = n + 1 + i by omega] at this
      exact this
    rcases h2 with ⟨s', h3, h4⟩ | ⟨s1, y, s', h3, h4, h5⟩
    · simp only [h3]
      obtain ⟨acc', s2, h6, h7⟩ := lcL_inv Iv hk l (n + 1) acc s' hh (by omega) h4
      exact ⟨acc', s2, h6, by rw [← en]; exact h7⟩
    · simp only [h3, h4]
      have hk' := hk _ _ _ h5
      rw [List.getElem?_append_right (by omega), show k - s'.length = 0 by omega]
      simp only [List.getElem?_cons_zero]
      rw [if_pos (by omega), List.set_append_right _ _ (by omega), show k - s'.length = 0 by omega]
      simp only [List.set_cons_zero]
      obtain ⟨acc', s2, h6, h7⟩ := lcL_inv Iv hk l (n + 1) (acc ++ [y]) s' hh (by rw [List.length_append]; simp; omega) h5
      exact ⟨acc', s2, h6, by rw [← en]; exact h7⟩
end N



namespace N
open PySem L2 PyProof.Rows

/-! ### how the functions over stores are evaluated: what holds of the answer -/
def R {α : Type} (o : Option (α × Sto)) (Q : α → Sto → Prop) : Prop := ∃ x s, o = some (x, s) ∧ Q x s
def Rc {α : Type} (o : Option α) (Q : α → Prop) : Prop := ∃ x, o = some x ∧ Q x
def Rs (o : Option (Fl × Lo × Sto)) (Q : Fl → Lo → Sto → Prop) : Prop := ∃ fl e s, o = some (fl, e, s) ∧ Q fl e s
def Ri (o : Option (List D × Option (Nat × List D) × Sto)) (Q : List D → Option (Nat × List D) → Sto → Prop) : Prop := ∃ l ck s, o = some (l, ck, s) ∧ Q l ck s
section
variable {α : Type}
@[simp] theorem R_some {x : α} {s : Sto} {Q : α → Sto → Prop} : R (some (x, s)) Q ↔ Q x s := ⟨fun ⟨_, _, h, q⟩ => by cases h; exact q, fun q => ⟨_, _, rfl, q⟩⟩
@[simp] theorem R_none {Q : α → Sto → Prop} : R none Q ↔ False := ⟨fun ⟨_, _, h, _⟩ => (by cases h), False.elim⟩
@[simp] theorem Rc_some {x : α} {Q : α → Prop} : Rc (some x) Q ↔ Q x := ⟨fun ⟨_, h, q⟩ => by cases h; exact q, fun q => ⟨_, rfl, q⟩⟩
@[simp] theorem Rc_none {Q : α → Prop} : Rc none Q ↔ False := ⟨fun ⟨_, h, _⟩ => (by cases h), False.elim⟩
@[simp] theorem Rs_some {fl : Fl} {e : Lo} {s : Sto} {Q : Fl → Lo → Sto → Prop} : Rs (some (fl, e, s)) Q ↔ Q fl e s := ⟨fun ⟨_, _, _, h, q⟩ => by cases h; exact q, fun q => ⟨_, _, _, rfl, q⟩⟩
@[simp] theorem Rs_none {Q : Fl → Lo → Sto → Prop} : Rs none Q ↔ False := ⟨fun ⟨_, _, _, h, _⟩ => (by cases h), False.elim⟩
@[simp] theorem Ri_some {l : List D} {ck : Option (Nat × List D)} {s : Sto} {Q : List D → Option (Nat × List D) → Sto → Prop} : Ri (some (l, ck, s)) Q ↔ Q l ck s := ⟨fun ⟨_, _, _, h, q⟩ => by cases h; exact q, fun q => ⟨_, _, _, rfl, q⟩⟩
@[simp] theorem Ri_none {Q : List D → Option (Nat × List D) → Sto → Prop} : Ri none Q ↔ False := ⟨fun ⟨_, _, _, h, _⟩ => (by cases h), False.elim⟩
theorem R.imp {o : Option (α × Sto)} {Q Q' : α → Sto → Prop} (h : R o Q) (k : ∀ x s, Q x s → Q' x s) : R o Q' := by
  obtain ⟨x, s, e, q⟩ := h
  exact ⟨x, s, e, k _ _ q⟩
theorem Rc.imp {o : Option α} {Q Q' : α → Prop} (h : Rc o Q) (k : ∀ x, Q x → Q' x) : Rc o Q' := by
  obtain ⟨x, e, q⟩ := h
  exact ⟨x, e, k _ q⟩
theorem Rs.imp {o : Option (Fl × Lo × Sto)} {Q Q' : Fl → Lo → Sto → Prop} (h : Rs o Q) (k : ∀ fl e s, Q fl e s → Q' fl e s) : Rs o Q' := by
  obtain ⟨x, e, s, h, q⟩ := h
  exact ⟨x, e, s, h, k _ _ _ q⟩
theorem R.of {o : Option (α × Sto)} {x : α} {s : Sto} {Q : α → Sto → Prop} (h : o = some (x, s)) (q : Q x s) : R o Q := ⟨x, s, h, q⟩
theorem R.eq {o : Option (α × Sto)} {x : α} {s : Sto} (h : R o fun y s' => y = x ∧ s' = s) : o = some (x, s) := by
  obtain ⟨_, _, h, rfl, rfl⟩ := h
  exact h
theorem Rs.of {o : Option (Fl × Lo × Sto)} {fl : Fl} {e : Lo} {s : Sto} {Q : Fl → Lo → Sto → Prop} (h : o = some (fl, e, s)) (q : Q fl e s) : Rs o Q := ⟨_, _, _, h, q⟩
end
section
variable {e : Lo} {s : Sto} {Q : D → Sto → Prop} {Qt : Bool → Sto → Prop} {Qa : List D → Sto → Prop} {Qs : Fl → Lo → Sto → Prop} {Qo : Option Int → Sto → Prop} {Qi : List D → Option (Nat × List D) → Sto → Prop}
@[simp] theorem R_C (x : PyData) : R (eC x e s) Q ↔ Q (.d x) s := R_some
@[simp] theorem R_Var (i : Nat) : R (eVar i e s) Q ↔ match e[i]? with
  | some (some d) => Q d s
  | _ => False := by
  unfold eVar
  rcases e[i]? with _ | _ | d <;> simp
@[simp] theorem R_nil : R (aNil e s) Qa ↔ Qa [] s := R_some
@[simp] theorem R_cons (m : ME) (ms : MA) : R (aCons m ms e s) Qa ↔ R (m e s) fun d s1 => R (ms e s1) fun ds s2 => Qa (d :: ds) s2 := by
  unfold aCons
  rcases m e s with _ | ⟨d, s1⟩
  · simp
  · rcases h : ms e s1 with _ | ⟨ds, s2⟩ <;> simp [h]
@[simp] theorem R_bin (f : FB) (ma mb : ME) : R (eBin f ma mb e s) Q ↔ R (ma e s) fun x s1 => R (mb e s1) fun y s2 => R (f s2 x y) Q := by
  unfold eBin
  rcases ma e s with _ | ⟨d, s1⟩
  · simp
  · rcases h : mb e s1 with _ | ⟨ds, s2⟩ <;> simp [h]
@[simp] theorem R_cmp (f : FC) (ma mb : ME) : R (eCmp f ma mb e s) Q ↔ R (ma e s) fun x s1 => R (mb e s1) fun y s2 => Rc (f s2 x y) fun k => Q (.d (.bool k)) s2 := by
  unfold eCmp eBin
  rcases ma e s with _ | ⟨d, s1⟩
  · simp
  · rcases h : mb e s1 with _ | ⟨ds, s2⟩
    · simp [h]
    · rcases h2 : f s2 d ds with _ | k <;> simp [h, h2]
@[simp] theorem R_tcmp (f : FC) (ma mb : ME) : R (tCmp f ma mb e s) Qt ↔ R (ma e s) fun x s1 => R (mb e s1) fun y s2 => Rc (f s2 x y) fun k => Qt k s2 := by
  unfold tCmp
  rcases ma e s with _ | ⟨d, s1⟩
  · simp
  · rcases h : mb e s1 with _ | ⟨ds, s2⟩
    · simp [h]
    · rcases h2 : f s2 d ds with _ | k <;> simp [h, h2]
@[simp] theorem R_call (f : FA) (ms : MA) : R (eCall f ms e s) Q ↔ R (ms e s) fun ds s1 => R (f s1 ds) Q := by
  unfold eCall
  rcases ms e s with _ | ⟨d, s1⟩ <;> simp
@[simp] theorem R_ite (mt : MT) (ma mb : ME) : R (eIte mt ma mb e s) Q ↔ R (mt e s) fun k s1 => (k = true → R (ma e s1) Q) ∧ (k = false → R (mb e s1) Q) := by
  unfold eIte
  rcases mt e s with _ | ⟨_ | _, s1⟩ <;> simp
@[simp] theorem R_tVal (m : ME) : R (tVal m e s) Qt ↔ R (m e s) fun d s1 => Rc (truD s1 d) fun k => Qt k s1 := by
  unfold tVal
  rcases m e s with _ | ⟨d, s1⟩
  · simp
  · rcases h : truD s1 d with _ | k <;> simp [h]
@[simp] theorem R_tTrue : R (tTrue e s) Qt ↔ Qt true s := R_some
@[simp] theorem R_tNot (mt : MT) : R (tNot mt e s) Qt ↔ R (mt e s) fun k s1 => Qt (!k) s1 := by
  unfold tNot
  rcases mt e s with _ | ⟨k, s1⟩ <;> simp
@[simp] theorem R_tAnd (mt mu : MT) : R (tAnd mt mu e s) Qt ↔ R (mt e s) fun k s1 => (k = true → R (mu e s1) Qt) ∧ (k = false → Qt false s1) := by
  unfold tAnd
  rcases mt e s with _ | ⟨_ | _, s1⟩ <;> simp
@[simp] theorem R_tOr (mt mu : MT) : R (tOr mt mu e s) Qt ↔ R (mt e s) fun k s1 => (k = false → R (mu e s1) Qt) ∧ (k = true → Qt true s1) := by
  unfold tOr
  rcases mt e s with _ | ⟨_ | _, s1⟩ <;> simp
@[simp] theorem R_eAnd (ma mb : ME) : R (eAnd ma mb e s) Q ↔ R (ma e s) fun d s1 => Rc (truD s1 d) fun k => (k = true → R (mb e s1) Q) ∧ (k = false → Q d s1) := by
  unfold eAnd
  rcases ma e s with _ | ⟨d, s1⟩
  · simp
  · rcases h : truD s1 d with _ | _ | _ <;> simp [h]
@[simp] theorem R_eOr (ma mb : ME) : R (eOr ma mb e s) Q ↔ R (ma e s) fun d s1 => Rc (truD s1 d) fun k => (k = false → R (mb e s1) Q) ∧ (k = true → Q d s1) := by
  unfold eOr
  rcases ma e s with _ | ⟨d, s1⟩
  · simp
  · rcases h : truD s1 d with _ | _ | _ <;> simp [h]
@[simp] theorem R_eNot (m : ME) : R (eNot m e s) Q ↔ R (m e s) fun d s1 => Rc (truD s1 d) fun k => Q (.d (.bool (!k))) s1 := by
  unfold eNot
  rcases m e s with _ | ⟨d, s1⟩
  · simp
  · rcases h : truD s1 d with _ | k <;> simp [h]
@[simp] theorem R_neg (m : ME) : R (eNeg m e s) Q ↔ R (m e s) fun d s1 => match d with
  | .d (.int i) => Q (.d (.int (-i))) s1
  | _ => False := by
  unfold eNeg
  rcases m e s with _ | ⟨d, s1⟩
  · simp
  · rcases d with x | j
    · cases x <;> simp
    · simp
@[simp] theorem R_tup (ms : MA) : R (eTup ms e s) Q ↔ R (ms e s) fun ds s1 => Rc (data ds) fun xs => xs.length ≤ lim ∧ Q (.d (.tuple xs)) s1 := by
  unfold eTup
  rcases ms e s with _ | ⟨ds, s1⟩
  · simp
  · rcases h : data ds with _ | xs
    · simp [h]
    · by_cases h2 : xs.length ≤ lim <;> simp [h, h2]
@[simp] theorem R_lst (own : Bool) (ms : MA) : R (eLst own ms e s) Q ↔ R (ms e s) fun ds s1 => ds.length ≤ lim ∧ R (mkL own s1 ds) Q := by
  unfold eLst
  rcases ms e s with _ | ⟨ds, s1⟩
  · simp
  · by_cases h : ds.length ≤ lim <;> simp [h]
@[simp] theorem R_mkT (ds : List D) : R (mkL true s ds) Q ↔ Q (.r s.length) (s ++ [.lst ds]) := R_some
@[simp] theorem R_mkF (ds : List D) : R (mkL false s ds) Q ↔ Rc (data ds) fun xs => Q (.d (.list xs)) s := by
  unfold mkL
  rcases h : data ds with _ | xs <;> simp [h]
@[simp] theorem R_dic : R (eDic e s) Q ↔ Q (.r s.length) (s ++ [.dic []]) := R_some
@[simp] theorem R_dicK : R (eDicK e s) Q ↔ Q (.r s.length) (s ++ [.dk []]) := R_some
@[simp] theorem R_isi (t : TyT) (m : ME) : R (eIsi t m e s) Q ↔ R (m e s) fun d s1 => Rc (pd s1 d) fun x => Q (.d (.bool (t.of x))) s1 := by
  unfold eIsi
  rcases m e s with _ | ⟨d, s1⟩
  · simp
  · rcases h : pd s1 d with _ | x <;> simp [h]
@[simp] theorem R_oNone : R (oNone e s) Qo ↔ Qo none s := R_some
@[simp] theorem R_oSome (m : ME) : R (oSome m e s) Qo ↔ R (m e s) fun d s1 => match d with
  | .d (.int i) => Qo (some i) s1
  | _ => False := by
  unfold oSome
  rcases m e s with _ | ⟨d, s1⟩
  · simp
  · rcases d with x | j
    · cases x <;> simp [eC]
    · simp
theorem cutD_map {α β : Type} (f : α → β) (xs : List α) (lo hi : Option Int) : cutD (xs.map f) lo hi = (cutD xs lo hi).map f := by
  unfold cutD
  rw [List.length_map, List.map_take, List.map_drop]
theorem v_list {own : Bool} (xs : List PyData) : bList own s [.d (.list xs)] = mkL own s (xs.map .d) := rfl
@[simp] theorem R_sl {own : Bool} (ma : ME) (ml mu : MO) : R (eSl own ma ml mu e s) Q ↔ R (ma e s) fun a s1 => R (ml e s1) fun l s2 => R (mu e s2) fun u s3 => match a with
  | .d (.tuple xs) => Q (.d (.tuple (cutD xs l u))) s3
  | a => Rc (asL s3 a) fun ds => R (mkL own s3 (cutD ds l u)) Q := by
  unfold eSl
  rcases ma e s with _ | ⟨a, s1⟩
  · simp
  · rcases h1 : ml e s1 with _ | ⟨l, s2⟩
    · simp [h1]
    · rcases h2 : mu e s2 with _ | ⟨u, s3⟩
      · simp [h1, h2]
      · rcases a with x | j
        · cases x <;> simp [h1, h2, asL]
        · simp only [h1, h2, R_some]
          rcases h3 : asL s3 (.r j) with _ | ds <;> simp [h3]
/-- an item -/
def kIx (s : Sto) (a : D) (x : PyData) : Option D := match a with
  | .r j => match s[j]? with
    | some (.dk kvs) => match keyOf x with
      | some k => kGet kvs k
      | none => none
    | _ => none
  | _ => none
noncomputable def itF (s : Sto) (a b : D) : Option D := match gIxU s a b with
  | some d => some d
  | none => match b with
    | .d x => kIx s a x
    | _ => none
theorem R_it (ma mb : ME) : R (eIt ma mb e s) Q ↔ R (ma e s) fun a s1 => R (mb e s1) fun b s2 => Rc (itF s2 a b) fun d => Q d s2 := by
  unfold eIt eItem eIxK eBin
  rcases ma e s with _ | ⟨a, s1⟩
  · simp
  · rcases h : mb e s1 with _ | ⟨b, s2⟩
    · simp [h]
    · simp only [h, R_some, itF]
      rcases h2 : gIxU s2 a b with _ | d
      · simp only [R_some]
        rcases b with x | k
        · rcases a with y | j
          · simp [kIx]
          · simp only [kIx]
            rcases s2[j]? with _ | c
            · simp
            · rcases c with ds | kvs | kvs | _
              · simp
              · simp
              · rcases keyOf x with _ | k
                · simp
                · rcases h3 : kGet kvs k with _ | d <;> simp [h3]
              · simp
        · rcases a with y | j <;> simp
      · simp
theorem itF_l {j : Nat} {ds : List D} {i : Int} {d : D} (h : s[j]? = some (.lst ds)) (h2 : atI ds i = some d) : itF s (.r j) (.d (.int i)) = some d := by
  unfold itF gIxU gIx asSeq asL
  simp only [h, h2]
theorem itF_t {xs : List PyData} {i : Int} {x : PyData} (h2 : atI xs i = some x) : itF s (.d (.tuple xs)) (.d (.int i)) = some (.d x) := by
  have : atI (xs.map D.d) i = some (.d x) := by
    unfold atI at h2 ⊢
    rw [List.length_map]
    rcases h : ixN xs.length i with _ | k
    · rw [h] at h2; cases h2
    · rw [h] at h2
      simp only [Option.bind_some] at h2 ⊢
      rw [List.getElem?_map, h2]
      rfl
  unfold itF gIxU gIx asSeq
  simp only [this]
theorem itF_tl {xs : List PyData} {i : Int} {x : PyData} (h2 : atI xs i = some x) : itF s (.d (.list xs)) (.d (.int i)) = some (.d x) := by
  have : atI (xs.map D.d) i = some (.d x) := by
    unfold atI at h2 ⊢
    rw [List.length_map]
    rcases h : ixN xs.length i with _ | k
    · rw [h] at h2; cases h2
    · rw [h] at h2
      simp only [Option.bind_some] at h2 ⊢
      rw [List.getElem?_map, h2]
      rfl
  unfold itF gIxU gIx asSeq asL
  simp only [this]
theorem itF_k {j : Nat} {kvs : List (PyData × D)} {xs : List PyData} {d : D} (h : s[j]? = some (.dic kvs)) (hk : isKey (.tuple xs) = true) (h2 : dGet kvs (.tuple xs) = some d) : itF s (.r j) (.d (.tuple xs)) = some d := by
  unfold itF gIxU
  simp only [h, hk, if_true, h2]
theorem atI_nat {α : Type} {xs : List α} {i : Nat} {x : α} (h : xs[i]? = some x) : atI xs (i : Int) = some x := by
  have hl : i < xs.length := by
    rcases Nat.lt_or_ge i xs.length with hi | hi
    · exact hi
    · rw [List.getElem?_eq_none hi] at h; cases h
  unfold atI ixN
  rw [if_pos (by omega), if_pos (by omega)]
  simpa using h
theorem atI_int {α : Type} {xs : List α} {i : Int} {x : α} (h0 : 0 ≤ i) (h : xs[i.toNat]? = some x) : atI xs i = some x := by
  have := atI_nat h
  rwa [Int.toNat_of_nonneg h0] at this
theorem ixN_int {n : Nat} {i : Int} (h0 : 0 ≤ i) (h : i < n) : ixN n i = some i.toNat := by
  unfold ixN
  rw [if_pos h0, if_pos h]
/-! statements -/
@[simp] theorem Rs_nil : Rs (sNil e s) Qs ↔ Qs .nx e s := Rs_some
@[simp] theorem Rs_pass : Rs (sPass e s) Qs ↔ Qs .nx e s := Rs_some
@[simp] theorem Rs_ct : Rs (sCt e s) Qs ↔ Qs .ct e s := Rs_some
@[simp] theorem Rs_bk : Rs (sBk e s) Qs ↔ Qs .bk e s := Rs_some
/-- what holds behind a statement -/
def thn (b : MS) (Q : Fl → Lo → Sto → Prop) : Fl → Lo → Sto → Prop := fun fl e s => match fl with
  | .nx => Rs (b e s) Q
  | fl => Q fl e s
@[simp] theorem thn_nx (b : MS) : thn b Qs .nx e s ↔ Rs (b e s) Qs := Iff.rfl
@[simp] theorem thn_rt (b : MS) (d : D) : thn b Qs (.rt d) e s ↔ Qs (.rt d) e s := Iff.rfl
@[simp] theorem thn_bk (b : MS) : thn b Qs .bk e s ↔ Qs .bk e s := Iff.rfl
@[simp] theorem thn_ct (b : MS) : thn b Qs .ct e s ↔ Qs .ct e s := Iff.rfl
@[simp] theorem Rs_seq (a b : MS) : Rs (sSeq a b e s) Qs ↔ Rs (a e s) (thn b Qs) := by
  unfold sSeq
  rcases a e s with _ | ⟨fl, e1, s1⟩
  · simp
  · cases fl <;> simp
@[simp] theorem Rs_set (i : Nat) (m : ME) : Rs (sSet i m e s) Qs ↔ R (m e s) fun d s1 => Qs .nx (e.set i (some d)) s1 := by
  unfold sSet
  rcases m e s with _ | ⟨d, s1⟩ <;> simp
@[simp] theorem Rs_ret (m : ME) : Rs (sRet m e s) Qs ↔ R (m e s) fun d s1 => Qs (.rt d) e s1 := by
  unfold sRet
  rcases m e s with _ | ⟨d, s1⟩ <;> simp
@[simp] theorem Rs_expr (m : ME) : Rs (sExpr m e s) Qs ↔ R (m e s) fun d s1 => Qs .nx e s1 := by
  unfold sExpr
  rcases m e s with _ | ⟨d, s1⟩ <;> simp
@[simp] theorem Rs_if (mt : MT) (M1 M2 : MS) : Rs (sIf mt M1 M2 e s) Qs ↔ R (mt e s) fun k s1 => (k = true → Rs (M1 e s1) Qs) ∧ (k = false → Rs (M2 e s1) Qs) := by
  unfold sIf
  rcases mt e s with _ | ⟨_ | _, s1⟩ <;> simp
@[simp] theorem Rs_aug (i : Nat) (f : FB) (m : ME) : Rs (sAug i f m e s) Qs ↔ match e[i]? with
  | some (some u) => R (m e s) fun d s1 => R (f s1 u d) fun z s2 => Qs .nx (e.set i (some z)) s2
  | _ => False := by
  unfold sAug
  rcases e[i]? with _ | _ | u
  · simp
  · simp
  · rcases m e s with _ | ⟨d, s1⟩
    · simp
    · rcases h : f s1 u d with _ | ⟨z, s2⟩ <;> simp [h]
@[simp] theorem Rs_asg (g : MG) (m : ME) : Rs (sAsg g m e s) Qs ↔ R (m e s) fun d s1 => Rc (g d e) fun e1 => Qs .nx e1 s1 := by
  unfold sAsg
  rcases m e s with _ | ⟨d, s1⟩
  · simp
  · rcases h : g d e with _ | e1 <;> simp [h]
@[simp] theorem Rs_par (is : List Nat) (ms : MA) : Rs (sPar is ms e s) Qs ↔ R (ms e s) fun ds s1 => ds.length = is.length ∧ Qs .nx ((is.zip ds).foldl (fun e z => e.set z.1 (some z.2)) e) s1 := by
  unfold sPar
  rcases ms e s with _ | ⟨ds, s1⟩
  · simp
  · by_cases h : ds.length = is.length <;> simp [h]
@[simp] theorem g_name (k : Nat) (d : D) : gName k d e = some (e.set k (some d)) := rfl
@[simp] theorem g_tup (gs : MGs) (xs : List PyData) : gTup gs (.d (.tuple xs)) e = gs xs e := rfl
@[simp] theorem gs_nil : gsNil [] e = some e := rfl
@[simp] theorem gs_cons (g : MG) (gs : MGs) (x : PyData) (xs : List PyData) : gsCons g gs (x :: xs) e = match g (.d x) e with
  | some e1 => gs xs e1
  | none => none := rfl
@[simp] theorem gs_len (n : Nat) (gs : MGs) (xs : List PyData) : gsLenOk n gs xs e = if xs.length = n then gs xs e else none := rfl
/-- an item put -/
noncomputable def putF (s : Sto) (o i d : D) : Option Sto := match o with
  | .r j => match s[j]? with
    | some (.lst ds) => match i with
      | .d (.int i) => match ixN ds.length i with
        | some k => some (s.set j (.lst (ds.set k d)))
        | none => none
      | _ => none
    | some (.dic kvs) => match i with
      | .d x => if isKey x ∧ kvs.length < lim then some (s.set j (.dic (dPut kvs x d))) else none
      | _ => none
    | some (.dk kvs) => match i with
      | .d x => match keyOf x with
        | some k => if kvs.length < lim then some (s.set j (.dk (kPut kvs k d))) else none
        | none => none
      | _ => none
    | _ => none
  | _ => none
theorem Rs_pu {ma mi mv : ME} : Rs (sPu ma mi mv e s) Qs ↔ R (mv e s) fun d s1 => R (ma e s1) fun o s2 => R (mi e s2) fun i s3 => Rc (putF s3 o i d) fun s4 => Qs .nx e s4 := by
  unfold sPu sPutU sPut sPutD sPutK putL putF
  rcases h1 : mv e s with _ | ⟨d, s1⟩
  · simp
  · rcases h2 : ma e s1 with _ | ⟨o, s2⟩
    · simp [h2]
    · rcases h3 : mi e s2 with _ | ⟨i, s3⟩
      · rcases o with x | j <;> simp [h2, h3]
      · rcases o with x | j
        · rcases i with x | j
          · cases x <;> simp [h2, h3]
          · simp [h2, h3]
        · rcases h4 : s3[j]? with _ | c
          · rcases i with x | j
            · cases x <;> simp [h2, h3, h4]
            · simp [h2, h3, h4]
          · rcases i with x | j
            · rcases c with ds | kvs | kvs | _
              · cases x <;> simp [h2, h3, h4]
                rename_i i
                rcases h5 : ixN ds.length i with _ | k <;> simp [h5]
              · by_cases hk : isKey x ∧ kvs.length < lim
                · cases x <;> simp [h2, h3, h4, hk]
                · cases x <;> simp [h2, h3, h4, hk]
              · have hk : isKey x = true → keyOf x = none ∨ True := fun _ => .inr trivial
                rcases h5 : keyOf x with _ | k
                · cases x <;> simp [h2, h3, h4, h5]
                · by_cases hl : kvs.length < lim <;> cases x <;> simp [h2, h3, h4, h5, hl]
              · cases x <;> simp [h2, h3, h4]
            · rcases c with ds | kvs | kvs | _ <;> simp [h2, h3, h4]
theorem putF_l {j k : Nat} {ds : List D} {i : Int} {d : D} (h : s[j]? = some (.lst ds)) (h2 : ixN ds.length i = some k) : putF s (.r j) (.d (.int i)) d = some (s.set j (.lst (ds.set k d))) := by
  unfold putF
  simp only [h, h2]
theorem putF_k {j : Nat} {kvs : List (PyData × D)} {xs : List PyData} {d : D} (h : s[j]? = some (.dic kvs)) (hk : isKey (.tuple xs) = true) (hl : kvs.length < lim) : putF s (.r j) (.d (.tuple xs)) d = some (s.set j (.dic (dPut kvs (.tuple xs) d))) := by
  unfold putF
  simp only [h]
  rw [if_pos ⟨hk, hl⟩]
/-! calls of functions of the program -/
theorem R_fn {np n : Nat} {own : Bool} {M : MS} {ds : List D} : R (fnR np n own M s ds) Q ↔ ds.length = np ∧ Rs (M (ds.map some ++ List.replicate (n - np) none) s) fun fl _ s' => match fl with
  | .rt d => R (ret own s d s') Q
  | .nx => R (ret own s (.d .none) s') Q
  | _ => False := by
  unfold fnR
  by_cases h : ds.length = np
  · rw [if_pos h]
    rcases M (ds.map some ++ List.replicate (n - np) none) s with _ | ⟨fl, e1, s1⟩
    · simp [h]
    · cases fl <;> simp [h]
  · rw [if_neg h]; simp [h]
/-! values -/
@[simp] theorem v_sub (i j : Int) : oSub s (.d (.int i)) (.d (.int j)) = some (.d (.int (i - j)), s) := rfl
@[simp] theorem v_add (own : Bool) (i j : Int) : oAdd own s (.d (.int i)) (.d (.int j)) = some (.d (.int (i + j)), s) := rfl
@[simp] theorem v_iadd (i j : Int) : oIadd s (.d (.int i)) (.d (.int j)) = some (.d (.int (i + j)), s) := rfl
@[simp] theorem v_addT (own : Bool) (xs ys : List PyData) : R (oAdd own s (.d (.tuple xs)) (.d (.tuple ys))) Q ↔ xs.length + ys.length ≤ lim ∧ Q (.d (.tuple (xs ++ ys))) s := by
  unfold oAdd
  by_cases h : xs.length + ys.length ≤ lim <;> simp [h]
theorem v_mul {i j : Int} (h : ((-(2 ^ 64) < i ∧ i < 2 ^ 64) ∨ (-(2 ^ 64) < j ∧ j < 2 ^ 64)) ∨ i.natAbs.log2 + j.natAbs.log2 < 1000000) : oMul s (.d (.int i)) (.d (.int j)) = some (.d (.int (i * j)), s) := by
  unfold oMul
  simp only [if_pos h]
theorem v_mulL {i j : Int} (h : -(2 ^ 64) < i ∧ i < 2 ^ 64) : oMul s (.d (.int i)) (.d (.int j)) = some (.d (.int (i * j)), s) := v_mul (.inl (.inl h))
theorem v_mulR {i j : Int} (h : -(2 ^ 64) < j ∧ j < 2 ^ 64) : oMul s (.d (.int i)) (.d (.int j)) = some (.d (.int (i * j)), s) := v_mul (.inl (.inr h))
theorem log2_small {j : Int} (h' : j.natAbs < 2 ^ 256) : j.natAbs.log2 ≤ 256 := by
  by_cases h0 : j.natAbs = 0
  · rw [h0]; decide
  · have := (Nat.log2_lt (n := j.natAbs) (k := 256) h0).mpr h'
    omega
theorem v_mulS {i j : Int} (hi : i.natAbs < 2 ^ 256) (hj : j.natAbs < 2 ^ 256) : oMul s (.d (.int i)) (.d (.int j)) = some (.d (.int (i * j)), s) := by
  refine v_mul (.inr ?_)
  have := log2_small hi
  have := log2_small hj
  omega
theorem v_div {i j : Int} (h : 0 < j) (h' : j < 2 ^ 256) : oDiv s (.d (.int i)) (.d (.int j)) = some (.d (.int (i / j)), s) := by
  have := log2_small (j := j) (by omega)
  unfold oDiv i2
  simp only [if_pos (show 0 < j ∧ j.natAbs.log2 < 9000 from ⟨h, by omega⟩)]
theorem v_mod {i j : Int} (h : 0 < j) : oMod s (.d (.int i)) (.d (.int j)) = some (.d (.int (i % j)), s) := by
  unfold oMod i2
  simp only [if_pos h]
theorem v_pow {i j : Int} (h : 0 ≤ j ∧ j ≤ 1000000 ∧ i.natAbs < 2 ^ 64) : oPow s (.d (.int i)) (.d (.int j)) = some (.d (.int (i ^ j.toNat)), s) := by
  unfold oPow i2
  simp only [if_pos h]
@[simp] theorem v_xor (i j : Int) : oXor s (.d (.int i)) (.d (.int j)) = some (.d (.int (Builtin.bitXor i j)), s) := rfl
@[simp] theorem v_lt (i j : Int) : cLt s (.d (.int i)) (.d (.int j)) = some (decide (i < j)) := rfl
@[simp] theorem v_le (i j : Int) : cLe s (.d (.int i)) (.d (.int j)) = some (decide (i ≤ j)) := rfl
@[simp] theorem v_gt (i j : Int) : cGt s (.d (.int i)) (.d (.int j)) = some (decide (j < i)) := rfl
@[simp] theorem v_ge (i j : Int) : cGe s (.d (.int i)) (.d (.int j)) = some (decide (j ≤ i)) := rfl
@[simp] theorem v_eq (i j : Int) : cEq s (.d (.int i)) (.d (.int j)) = some (decide (i = j)) := rfl
@[simp] theorem v_ne (i j : Int) : cNe s (.d (.int i)) (.d (.int j)) = some (!decide (i = j)) := rfl
@[simp] theorem v_isN (a : D) : cIsN false s a (.d .none) = some (isNone a) := rfl
@[simp] theorem v_isNn (a : D) : cIsN true s a (.d .none) = some (!isNone a) := rfl
@[simp] theorem isNone_n : isNone (.d .none) = true := rfl
@[simp] theorem isNone_r (j : Nat) : isNone (.r j) = false := rfl
@[simp] theorem isNone_i (i : Int) : isNone (.d (.int i)) = false := rfl
@[simp] theorem isNone_t (xs : List PyData) : isNone (.d (.tuple xs)) = false := rfl
@[simp] theorem isNone_l (xs : List PyData) : isNone (.d (.list xs)) = false := rfl
@[simp] theorem isNone_b (b : Bool) : isNone (.d (.bool b)) = false := rfl
@[simp] theorem v_int (i : Int) : bInt s [.d (.int i)] = some (.d (.int i), s) := rfl
@[simp] theorem tru_b (b : Bool) : truD s (.d (.bool b)) = some b := rfl
@[simp] theorem tru_i (i : Int) : truD s (.d (.int i)) = some (i != 0) := rfl
@[simp] theorem tru_t (xs : List PyData) : truD s (.d (.tuple xs)) = some (!xs.isEmpty) := rfl
@[simp] theorem tru_l (xs : List PyData) : truD s (.d (.list xs)) = some (!xs.isEmpty) := rfl
@[simp] theorem tru_n : truD s (.d .none) = some false := rfl
@[simp] theorem pd_d (x : PyData) : pd s (.d x) = some x := rfl
@[simp] theorem data_nil : data [] = some [] := rfl
@[simp] theorem data_cons (x : PyData) (ds : List D) : data (.d x :: ds) = match data ds with
  | some xs => some (x :: xs)
  | none => none := rfl
@[simp] theorem len_t (xs : List PyData) : bLen s [.d (.tuple xs)] = some (.d (.int xs.length), s) := rfl
theorem len_l (xs : List PyData) : bLen s [.d (.list xs)] = some (.d (.int xs.length), s) := by
  unfold bLen f1 lenG asL
  simp
theorem len_r {j : Nat} {ds : List D} (h : s[j]? = some (.lst ds)) : bLen s [.r j] = some (.d (.int ds.length), s) := by
  unfold bLen f1 lenG asL
  simp [h]
@[simp] theorem v_tupT (xs : List PyData) : bTuple s [.d (.tuple xs)] = some (.d (.tuple xs), s) := rfl
theorem v_tupL (xs : List PyData) : bTuple s [.d (.list xs)] = some (.d (.tuple xs), s) := by
  unfold bTuple asL
  simp [data_map]
theorem v_tupR {j : Nat} {xs : List PyData} (h : s[j]? = some (.lst (xs.map .d))) : bTuple s [.r j] = some (.d (.tuple xs), s) := by
  unfold bTuple asL
  simp [h, data_map]
end
end N

namespace N
open PySem L2 PyProof.Rows

/-! ### loops, comprehensions: rules -/
/-- what the store's cells refer to is in it -/
def Wf (s : Sto) : Prop := ∀ c ∈ s, c.below s.length
theorem below_mono {c : Cell} {n m : Nat} (h : c.below n) (l : n ≤ m) : c.below m := by
  cases c with
  | lst ds => exact fun j hj => Nat.lt_of_lt_of_le (h j hj) l
  | dic kvs => exact fun k j hj => Nat.lt_of_lt_of_le (h k j hj) l
  | dk kvs => exact fun k j hj => Nat.lt_of_lt_of_le (h k j hj) l
  | gone => trivial
theorem safe_wf {s0 s g : Sto} (hl : s.length = s0.length) (h : Wf s) : Safe s0 (s ++ g) := by
  refine ⟨by simp; omega, fun j c hj hc => ?_⟩
  rw [List.getElem?_append_left (by omega)] at hc
  exact .inr (by rw [← hl]; exact h c (List.mem_of_getElem? hc))
theorem trim_wf {s0 s g : Sto} (hl : s.length = s0.length) (h : Wf s) : trim s0 (s ++ g) = s := by
  unfold trim
  rw [if_pos (safe_wf hl h), ← hl, List.take_left]
theorem trim_wf' {s0 s : Sto} (hl : s.length = s0.length) (h : Wf s) : trim s0 s = s := by
  have := trim_wf (g := []) hl h
  rwa [List.append_nil] at this
theorem trimE_wf {s0 s g : Sto} {e : Lo} (hl : s.length = s0.length) (h : Wf s) (he : LoBelow s0.length e) : trimE s0 e (s ++ g) = s := by
  unfold trimE
  rw [if_pos he, trim_wf hl h]
theorem trimE_wf' {s0 s : Sto} {e : Lo} (hl : s.length = s0.length) (h : Wf s) : trimE s0 e s = s := by
  unfold trimE
  split
  · exact trim_wf' hl h
  · rfl
section
variable {e : Lo} {s : Sto} {Q : D → Sto → Prop} {Qt : Bool → Sto → Prop} {Qa : List D → Sto → Prop} {Qs : Fl → Lo → Sto → Prop} {Qo : Option Int → Sto → Prop} {Qi : List D → Option (Nat × List D) → Sto → Prop}
@[simp] theorem Ri_rng1 (ms : MA) : Ri (iRng1 ms e s) Qi ↔ R (ms e s) fun ds s1 => match ds with
  | [.d (.int j)] => (-(2 ^ 62) ≤ j ∧ j < 2 ^ 62) ∧ Qi (rngD 0 j.toNat) none s1
  | _ => False := by
  unfold iRng1
  rcases ms e s with _ | ⟨ds, s1⟩
  · simp
  · simp only [R_some]
    split
    · rename_i j s2 h
      cases h
      by_cases h : -(2 ^ 62) ≤ j ∧ j < 2 ^ 62
      · simp only [if_pos h, Ri_some]
        exact ⟨fun q => ⟨h, q⟩, fun q => q.2⟩
      · simp only [if_neg h, Ri_none, false_iff]
        exact fun q => h q.1
    · rename_i h
      simp only [Ri_none, false_iff]
      split
      · rename_i j
        exact (h j _ rfl).elim
      · exact id
@[simp] theorem Ri_rng2 (ms : MA) : Ri (iRng2 ms e s) Qi ↔ R (ms e s) fun ds s1 => match ds with
  | [.d (.int i), .d (.int j)] => (-(2 ^ 62) ≤ i ∧ i < 2 ^ 62 ∧ -(2 ^ 62) ≤ j ∧ j < 2 ^ 62) ∧ Qi (rngD i (j - i).toNat) none s1
  | _ => False := by
  unfold iRng2
  rcases ms e s with _ | ⟨ds, s1⟩
  · simp
  · simp only [R_some]
    split
    · rename_i i j s2 h
      cases h
      by_cases h : -(2 ^ 62) ≤ i ∧ i < 2 ^ 62 ∧ -(2 ^ 62) ≤ j ∧ j < 2 ^ 62
      · simp only [if_pos h, Ri_some]
        exact ⟨fun q => ⟨h, q⟩, fun q => q.2⟩
      · simp only [if_neg h, Ri_none, false_iff]
        exact fun q => h q.1
    · rename_i h
      simp only [Ri_none, false_iff]
      split
      · rename_i i j
        exact (h i j _ rfl).elim
      · exact id
@[simp] theorem Ri_seq (m : ME) : Ri (iSeq m e s) Qi ↔ R (m e s) fun d s1 => match d with
  | .d (.tuple xs) => Qi (xs.map .d) none s1
  | .d (.list xs) => Qi (xs.map .d) none s1
  | .r j => match s1[j]? with
    | some (.lst ds) => Qi ds (some (j, ds)) s1
    | _ => False
  | _ => False := by
  unfold iSeq iLst
  rcases m e s with _ | ⟨d, s1⟩
  · simp
  · rcases d with x | j
    · cases x <;> simp
    · simp
      rcases s1[j]? with _ | c
      · simp
      · cases c <;> simp
theorem enumD_zip (xs : List PyData) : enumD xs = xs.zipIdx.map fun p => .d (.tuple [.int (p.2 : Nat), p.1]) := by
  have h : ∀ (xs : List PyData) (n : Nat), (List.range' n xs.length).zipWith (fun (i : Nat) x => D.d (.tuple [.int (i : Nat), x])) xs = (xs.zipIdx n).map fun p => .d (.tuple [.int (p.2 : Nat), p.1]) := by
    intro xs
    induction xs with
    | nil => intro n; rfl
    | cons x xs ih =>
      intro n
      rw [List.length_cons, List.range'_succ, List.zipWith_cons_cons, ih, List.zipIdx_cons, List.map_cons]
  unfold enumD
  rw [List.range_eq_range']
  exact h xs 0
@[simp] theorem Ri_enumT (m : ME) : Ri (iEnum (aCons m aNil) e s) Qi ↔ R (m e s) fun d s1 => match d with
  | .d (.tuple xs) => Qi (enumD xs) none s1
  | .d (.list xs) => Qi (enumD xs) none s1
  | d => Ri (iEnum (fun _ _ => some ([d], s1)) e s1) Qi := by
  unfold iEnum aCons aNil
  rcases m e s with _ | ⟨d, s1⟩
  · simp
  · rcases d with x | j
    · cases x <;> simp
    · simp
/-- a for -/
def aft (Iv : Lo → Sto → Prop) (Qs : Fl → Lo → Sto → Prop) (dead : List Nat) (s : Sto) : Fl → Lo → Sto → Prop := fun fl e2 s2 => match fl with
  | .nx => Iv (wipeN e2 dead) (trimE s (wipeN e2 dead) s2)
  | .ct => Iv (wipeN e2 dead) (trimE s (wipeN e2 dead) s2)
  | .rt d => Qs (.rt d) e2 s2
  | .bk => Qs .nx e2 s2
@[simp] theorem aft_nx {Iv : Lo → Sto → Prop} {dead : List Nat} {s0 : Sto} : aft Iv Qs dead s0 .nx e s ↔ Iv (wipeN e dead) (trimE s0 (wipeN e dead) s) := Iff.rfl
@[simp] theorem aft_ct {Iv : Lo → Sto → Prop} {dead : List Nat} {s0 : Sto} : aft Iv Qs dead s0 .ct e s ↔ Iv (wipeN e dead) (trimE s0 (wipeN e dead) s) := Iff.rfl
@[simp] theorem aft_rt {Iv : Lo → Sto → Prop} {dead : List Nat} {s0 : Sto} {d : D} : aft Iv Qs dead s0 (.rt d) e s ↔ Qs (.rt d) e s := Iff.rfl
@[simp] theorem aft_bk {Iv : Lo → Sto → Prop} {dead : List Nat} {s0 : Sto} : aft Iv Qs dead s0 .bk e s ↔ Qs .nx e s := Iff.rfl
theorem Rs_forL {α : Type} {enc : α → D} {g : MG} {M : MS} {dead : List Nat} (Iv : Nat → Lo → Sto → Prop) (q : ∀ (e : Lo) (s : Sto) (N : Nat), Iv N e s → True) : ∀ (l : List α) (n : Nat) (e : Lo) (s : Sto), (∀ i x e s, l[i]? = some x → Iv (n + i) e s → Rc (g (enc x) e) fun e1 => Rs (M e1 s) (aft (Iv (n + i + 1)) Qs dead s)) → (∀ e s, Iv (n + l.length) e s → Qs .nx e s) → Iv n e s →
    Rs (forL none (turnF g M dead) (l.map enc) e s) Qs
  | [], n, e, s, h, q, h0 => by
    rw [List.map_nil]
    unfold forL
    rw [if_pos (ck_none _), Rs_some]
    exact q e s h0
  | x :: l, n, e, s, h, q', h0 => by
    rw [List.map_cons]
    unfold forL
    rw [if_pos (ck_none _)]
    obtain ⟨e1, h1, fl, e2, s2, h2, h3⟩ := h 0 x e s rfl h0
    have hh : ∀ i y e s, l[i]? = some y → Iv (n + 1 + i) e s → Rc (g (enc y) e) fun e1 => Rs (M e1 s) (aft (Iv (n + 1 + i + 1)) Qs dead s) := fun i y e s hy hi => by
      have := h (i + 1) y e s (by simpa using hy) (by rw [show n + (i + 1) = n + 1 + i by omega]; exact hi)
      rw [show n + (i + 1) = n + 1 + i by omega] at this
      exact this
    have hq : ∀ e s, Iv (n + 1 + l.length) e s → Qs .nx e s := fun e s hi => q' e s (by rw [show n + (x :: l).length = n + 1 + l.length by simp; omega]; exact hi)
    unfold turnF
    simp only [h1, h2]
    cases fl with
    | nx => exact Rs_forL Iv q l (n + 1) _ _ hh hq h3
    | ct => exact Rs_forL Iv q l (n + 1) _ _ hh hq h3
    | bk => exact Rs_some.mpr h3
    | rt d => exact Rs_some.mpr h3
theorem Rs_for {α : Type} (l : List α) (enc : α → D) {mi : MI} {g : MG} {M : MS} {dead : List Nat} (Iv : Nat → Lo → Sto → Prop) (hi : Ri (mi e s) fun items ck s1 => items = l.map enc ∧ ck = none ∧ Iv 0 e s1)
    (h : ∀ i x e s, l[i]? = some x → Iv i e s → Rc (g (enc x) e) fun e1 => Rs (M e1 s) (aft (Iv (i + 1)) Qs dead s)) (q : ∀ e s, Iv l.length e s → Qs .nx e s) : Rs (sFor mi g M dead e s) Qs := by
  obtain ⟨_, _, s1, h1, rfl, rfl, h2⟩ := hi
  unfold sFor
  simp only [h1]
  refine Rs_forL Iv (fun _ _ _ _ => trivial) l 0 e s1 (fun i x e s hx hi => ?_) (fun e s hi => q e s (by rwa [Nat.zero_add] at hi)) h2
  rw [Nat.zero_add] at hi ⊢
  exact h i x e s hx hi
/-- a while: a measure falls -/
theorem Rs_whileL {mt : MT} {M : MS} {dead : List Nat} (Iv : Nat → Lo → Sto → Prop) (h : ∀ m e s, Iv m e s → R (mt e s) fun b s1 => (b = false → Qs .nx e s1) ∧ (b = true → Rs (M e s1) (aft (fun e s => ∃ m', m' < m ∧ Iv m' e s) Qs dead s))) : ∀ (m n : Nat) (e : Lo) (s : Sto), m < n → Iv m e s → Rs (whileL mt M dead n e s) Qs := by
  intro m
  induction m using Nat.strongRecOn with
  | _ m ih =>
    intro n e s hn hi
    obtain ⟨n, rfl⟩ : ∃ k, n = k + 1 := ⟨n - 1, by omega⟩
    unfold whileL
    obtain ⟨b, s1, h1, h2, h3⟩ := h m e s hi
    cases b with
    | false => simp only [h1]; exact Rs_some.mpr (h2 rfl)
    | true =>
      obtain ⟨fl, e2, s2, h4, h5⟩ := h3 rfl
      simp only [h1, h4]
      cases fl with
      | nx =>
        obtain ⟨m', h6, h7⟩ := h5
        exact ih m' h6 n _ _ (by omega) h7
      | ct =>
        obtain ⟨m', h6, h7⟩ := h5
        exact ih m' h6 n _ _ (by omega) h7
      | bk => exact Rs_some.mpr h5
      | rt d => exact Rs_some.mpr h5
theorem Rs_while {mt : MT} {M : MS} {dead : List Nat} (Iv : Nat → Lo → Sto → Prop) {m : Nat} (hm : m < 2 ^ 64) (h0 : Iv m e s) (h : ∀ m e s, Iv m e s → R (mt e s) fun b s1 => (b = false → Qs .nx e s1) ∧ (b = true → Rs (M e s1) (aft (fun e s => ∃ m', m' < m ∧ Iv m' e s) Qs dead s))) : Rs (sWhile mt M dead e s) Qs :=
  Rs_whileL Iv h m _ e s hm h0
/-- a comprehension whose turns leave the store -/
theorem R_lc {α : Type} (l : List α) (enc : α → D) (f : α → PyData) (p : α → Bool) {vs : List Nat} {mi : MI} {g : MG} {mt : MT} {el : ME} (hi : Ri (mi e s) fun items ck s1 => items = l.map enc ∧ ck = none ∧ s1 = s)
    (h : ∀ x ∈ l, ∀ acc, Rc (g (enc x) (wipeN e vs)) fun e1 => R (mt e1 (s ++ [.lst acc])) fun b s2 => b = p x ∧ s2 = s ++ [.lst acc] ∧ (p x = true → R (el e1 (s ++ [.lst acc])) fun d s3 => d = .d (f x) ∧ s3 = s ++ [.lst acc])) (hl : l.length ≤ lim) (q : Q (.d (.list ((l.filter p).map f))) s) : R (eLc false vs mi g mt el e s) Q := by
  obtain ⟨_, _, _, h1, rfl, rfl, rfl⟩ := hi
  refine R.of (eLc_d f p h1 (fun x hx acc => ?_) hl) q
  obtain ⟨e1, h2, b, s2, h3, rfl, rfl, h4⟩ := h x hx acc
  refine ⟨e1, h2, h3, fun hp => ?_⟩
  obtain ⟨_, _, h5, rfl, rfl⟩ := h4 hp
  exact h5
/-- .. that takes each -/
theorem R_lcm {α : Type} (l : List α) (enc : α → D) (f : α → PyData) {vs : List Nat} {mi : MI} {g : MG} {el : ME} (hi : Ri (mi e s) fun items ck s1 => items = l.map enc ∧ ck = none ∧ s1 = s)
    (h : ∀ x ∈ l, ∀ acc, Rc (g (enc x) (wipeN e vs)) fun e1 => R (el e1 (s ++ [.lst acc])) fun d s3 => d = .d (f x) ∧ s3 = s ++ [.lst acc]) (hl : l.length ≤ lim) (q : Q (.d (.list (l.map f))) s) : R (eLc false vs mi g tTrue el e s) Q := by
  refine R_lc l enc f (fun _ => true) hi (fun x hx acc => ?_) hl (by rwa [List.filter_eq_self.mpr (fun _ _ => rfl)])
  obtain ⟨e1, h1, h2⟩ := h x hx acc
  exact ⟨e1, h1, R_tTrue.mpr ⟨rfl, rfl, fun _ => h2⟩⟩
/-- .. whose turns change the store -/
theorem R_lcI {α : Type} (l : List α) (enc : α → D) (k : Nat) (Iv : Nat → List PyData → Sto → Prop) {vs : List Nat} {mi : MI} {g : MG} {mt : MT} {el : ME} (hi : Ri (mi e s) fun items ck s1 => items = l.map enc ∧ ck = none ∧ Iv 0 [] s1)
    (hk : ∀ i acc s, Iv i acc s → s.length = k ∧ Wf s) (h : ∀ i x acc s, l[i]? = some x → Iv i acc s → Rc (g (enc x) (wipeN e vs)) fun e1 => R (mt e1 (s ++ [.lst (acc.map .d)])) fun b s1 => (b = false → ∃ s', s1 = s' ++ [.lst (acc.map .d)] ∧ Iv (i + 1) acc s') ∧ (b = true → R (el e1 s1) fun y s2 => ∃ z s', y = .d z ∧ s2 = s' ++ [.lst (acc.map .d)] ∧ Iv (i + 1) (acc ++ [z]) s'))
    (hl : l.length ≤ lim) (q : ∀ acc s, Iv l.length acc s → Q (.d (.list acc)) s) : R (eLc false vs mi g mt el e s) Q := by
  obtain ⟨_, _, s1, h1, rfl, rfl, h2⟩ := hi
  have hk1 := (hk _ _ _ h2).1
  obtain ⟨acc', s', h3, xs, rfl, h4⟩ := lcL_inv (k := k) (g := g) (mt := mt) (el := el) (e0 := wipeN e vs) (enc := enc) (fun i acc s => ∃ xs : List PyData, acc = xs.map .d ∧ Iv i xs s) (fun i acc s ⟨xs, _, hi⟩ => (hk _ _ _ hi).1) l 0 [] s1 (fun i x acc s hx ⟨xs, ea, hi⟩ => by
    subst ea
    rw [Nat.zero_add] at hi ⊢
    obtain ⟨e1, h5, b, s2, h6, h7, h8⟩ := h i x xs s hx hi
    refine ⟨e1, h5, ?_⟩
    cases b with
    | false =>
      obtain ⟨s', rfl, h9⟩ := h7 rfl
      exact .inl ⟨s', h6, xs, rfl, h9⟩
    | true =>
      obtain ⟨y, s3, h9, z, s', rfl, rfl, h10⟩ := h8 rfl
      exact .inr ⟨s2, _, s', h6, h9, xs ++ [z], by simp, h10⟩) (by simpa using hl) ⟨[], rfl, h2⟩
  rw [Nat.zero_add] at h4
  have hk2 := hk _ _ _ h4
  refine R.of (x := .d (.list xs)) (s := s') ?_ (q _ _ h4)
  unfold eLc
  simp only [h1]
  rw [hk1, h3]
  unfold lcFin
  simp only []
  rw [List.getElem?_append_right (by omega), show s1.length - s'.length = 0 by omega]
  simp only [List.getElem?_cons_zero, data_map, Bool.false_eq_true, if_false]
  rw [List.set_append_right _ _ (by omega)]
  rw [trim_wf (by omega) hk2.2]
end
end N

namespace N
open PySem L2 PyProof.Rows

/-! ### data without truth values: equal is the same -/
mutual
def pk : PyData → Bool
  | .none => true
  | .int _ => true
  | .str _ => true
  | .tuple xs => pks xs
  | .list xs => pks xs
  | _ => false
def pks : List PyData → Bool
  | [] => true
  | x :: xs => pk x && pks xs
end
theorem pks_iff : ∀ {xs : List PyData}, pks xs = true ↔ ∀ x ∈ xs, pk x = true
  | [] => by simp [pks]
  | x :: xs => by simp [pks, pks_iff (xs := xs)]
mutual
theorem pk_plain : ∀ {x : PyData}, pk x = true → x.plain = true
  | .none, _ => rfl
  | .int _, _ => rfl
  | .str _, _ => rfl
  | .tuple xs, h => by unfold PyData.plain; exact pks_plain (by simpa [pk] using h)
  | .list xs, h => by unfold PyData.plain; exact pks_plain (by simpa [pk] using h)
  | .bool _, h => by simp [pk] at h
  | .dict _, h => by simp [pk] at h
theorem pks_plain : ∀ {xs : List PyData}, pks xs = true → PyData.plainAll xs = true
  | [], _ => rfl
  | x :: xs, h => by
    simp only [pks, Bool.and_eq_true] at h
    simp only [PyData.plainAll, Bool.and_eq_true]
    exact ⟨pk_plain h.1, pks_plain h.2⟩
end
mutual
theorem pk_eqv : ∀ {x y : PyData}, pk x = true → pk y = true → PyData.eqv x y = decide (x = y)
  | .none, y, _, h => by cases y <;> simp [PyData.eqv, pk] at h ⊢
  | .int _, y, _, h => by
    cases y with
    | int j => unfold PyData.eqv; simp [Bool.beq_eq_decide_eq]
    | _ => simp [PyData.eqv, pk] at h ⊢
  | .str _, y, _, h => by
    cases y with
    | str j => unfold PyData.eqv; simp [Bool.beq_eq_decide_eq]
    | _ => simp [PyData.eqv, pk] at h ⊢
  | .tuple xs, y, hx, h => by
    cases y with
    | tuple ys =>
      unfold PyData.eqv
      rw [pks_eqv (by simpa [pk] using hx) (by simpa [pk] using h)]
      simp
    | _ => simp [PyData.eqv, pk] at h ⊢
  | .list xs, y, hx, h => by
    cases y with
    | list ys =>
      unfold PyData.eqv
      rw [pks_eqv (by simpa [pk] using hx) (by simpa [pk] using h)]
      simp
    | _ => simp [PyData.eqv, pk] at h ⊢
  | .bool _, _, h, _ => by simp [pk] at h
  | .dict _, _, h, _ => by simp [pk] at h
theorem pks_eqv : ∀ {xs ys : List PyData}, pks xs = true → pks ys = true → PyData.eqvAll xs ys = decide (xs = ys)
  | [], [], _, _ => by simp [PyData.eqvAll]
  | [], _ :: _, _, _ => by simp [PyData.eqvAll]
  | _ :: _, [], _, _ => by simp [PyData.eqvAll]
  | x :: xs, y :: ys, h, h' => by
    simp only [pks, Bool.and_eq_true] at h h'
    unfold PyData.eqvAll
    rw [pk_eqv h.1 h'.1, pks_eqv h.2 h'.2]
    simp
end
section
variable {s : Sto}
theorem eqv_gen {a b : D} {x y : PyData} (ha : pd s a = some x) (hb : pd s b = some y) (hx : pk x = true) (hy : pk y = true) (hd : min x.depth y.depth ≤ 60) : cEqv s a b = some (decide (x = y)) := by
  unfold cEqv
  split
  · rename_i i j
    simp only [pd, Option.some.injEq] at ha hb
    subst ha; subst hb
    simp
  · simp only [ha, hb]
    rw [if_pos ⟨pk_plain hx, pk_plain hy, hd⟩, pk_eqv hx hy]
theorem v_eqP {a b : D} {x y : PyData} (ha : pd s a = some x) (hb : pd s b = some y) (hx : pk x = true) (hy : pk y = true) (hd : min x.depth y.depth ≤ 60) : cEq s a b = some (decide (x = y)) := eqv_gen ha hb hx hy hd
theorem v_neP {a b : D} {x y : PyData} (ha : pd s a = some x) (hb : pd s b = some y) (hx : pk x = true) (hy : pk y = true) (hd : min x.depth y.depth ≤ 60) : cNe s a b = some (!decide (x = y)) := by
  unfold cNe
  rw [eqv_gen ha hb hx hy hd]
@[simp] theorem v_eqB (a b : Bool) : cEq s (.d (.bool a)) (.d (.bool b)) = some (decide (a = b)) := by
  unfold cEq cEqv
  simp [PyData.plain, PyData.depth, PyData.eqv, Bool.beq_eq_decide_eq]
@[simp] theorem v_neB (a b : Bool) : cNe s (.d (.bool a)) (.d (.bool b)) = some (!decide (a = b)) := by
  unfold cNe cEqv
  simp [PyData.plain, PyData.depth, PyData.eqv, Bool.beq_eq_decide_eq]
@[simp] theorem v_eqS (a b : Str) : cEq s (.d (.str a)) (.d (.str b)) = some (decide (a = b)) := v_eqP rfl rfl rfl rfl (by simp [PyData.depth]) |>.trans (by simp)
/-- in -/
theorem any_pk {ds : List PyData} {x : PyData} (h : pks ds = true) (hx : pk x = true) : (ds.any fun z => PyData.eqv z x) = decide (x ∈ ds) := by
  induction ds with
  | nil => simp
  | cons d ds ih =>
    simp only [pks, Bool.and_eq_true] at h
    rw [List.any_cons, ih h.2, pk_eqv h.1 hx]
    by_cases e : d = x
    · simp [e]
    · simp [e, Ne.symm e, List.mem_cons, show x ≠ d from fun h => e h.symm]
theorem v_inQ {neg : Bool} {ds : List PyData} {x : PyData} (h : pks ds = true) (hx : pk x = true) (hd : min (PyData.depthAll ds) x.depth ≤ 60) : cInQ neg x ds = some (if neg then !decide (x ∈ ds) else decide (x ∈ ds)) := by
  unfold cInQ
  rw [if_pos ⟨pks_plain h, pk_plain hx, hd⟩, any_pk h hx]
theorem v_inT {neg : Bool} {ds : List PyData} {a : D} {x : PyData} (ha : pd s a = some x) (h : pks ds = true) (hx : pk x = true) (hd : min (PyData.depthAll ds) x.depth ≤ 60) : cIn neg s a (.d (.tuple ds)) = some (if neg then !decide (x ∈ ds) else decide (x ∈ ds)) := by
  unfold cIn
  simp only [ha]
  exact v_inQ h hx hd
theorem v_inL {neg : Bool} {ds : List PyData} {a : D} {x : PyData} (ha : pd s a = some x) (h : pks ds = true) (hx : pk x = true) (hd : min (PyData.depthAll ds) x.depth ≤ 60) : cIn neg s a (.d (.list ds)) = some (if neg then !decide (x ∈ ds) else decide (x ∈ ds)) := by
  unfold cIn
  simp only [ha]
  exact v_inQ h hx hd
theorem v_inD {neg : Bool} {j : Nat} {kvs : List (PyData × D)} {x : PyData} (h : s[j]? = some (.dic kvs)) (hk : isKey x = true) : cIn neg s (.d x) (.r j) = some (if neg then !dHas kvs x else dHas kvs x) := by
  unfold cIn
  simp only [h, hk, if_true]
theorem v_inK {neg : Bool} {j : Nat} {kvs : List (Key × D)} {x : PyData} {k : Key} (h : s[j]? = some (.dk kvs)) (hk : keyOf x = some k) : cIn neg s (.d x) (.r j) = some (if neg then !kHas kvs k else kHas kvs k) := by
  unfold cIn
  simp only [h, hk]
end
/-! numbers in rows -/
theorem pks_ints (ns : List Int) : pks (ns.map PyData.int) = true := pks_iff.mpr (by simp [pk])
theorem kOK_ints (ns : List Int) : Z.kOKs (ns.map PyData.int) = true := by
  induction ns with
  | nil => rfl
  | cons n ns ih => simp [Z.kOKs, Z.kOK, ih]
theorem dep_ints (ns : List Int) : Z.deps (ns.map PyData.int) = 0 := by
  induction ns with
  | nil => rfl
  | cons n ns ih => simp [Z.deps, Z.dep, ih]
theorem key_ints (ns : List Int) : isKey (.tuple (ns.map PyData.int)) = true := by
  simp [isKey, Z.isTup, Z.kOK, kOK_ints, Z.dep, dep_ints]
theorem intsOf_ints (ns : List Int) : intsOf ((ns.map PyData.int).map D.d) = some ns := by
  induction ns with
  | nil => rfl
  | cons n ns ih => simp only [List.map_cons, intsOf, ih]
theorem int_inj {a b : List Int} (h : a.map PyData.int = b.map PyData.int) : a = b := by
  have := congrArg (List.map fun x => match x with | PyData.int i => i | _ => 0) h
  simpa [Function.comp_def] using this
end N

namespace N
open PySem L2 PyProof.Rows

/-! ### the row of figures: a tape -/
noncomputable def b__law_mix : MS := (sSeq (sSet 0 (eBin oMod (eCall bInt (aCons (eBin (oAdd false) (eBin oMul (eVar 0) (eC (.int 6364136223846793005))) (eC (.int 1442695040888963407))) aNil)) (eC (.int 18446744073709551616))))
  (sSeq (sRet (eBin oMod (eCall bInt (aCons (eBin (oAdd false) (eBin oDiv (eBin oMul (eVar 0) (eVar 0)) (eC (.int 4294967296))) (eBin oMul (eVar 0) (eC (.int 69621)))) aNil)) (eC (.int 18446744073709551557))))
  sNil))
noncomputable def m__law_mix : FA := fnR 1 1 false b__law_mix
noncomputable def b__law_tape : MS := (sSeq (sRet (eLst true (aCons (eCall (bList true) (aCons (eSl false (eVar 0) oNone (oSome (eC (.int 80)))) aNil)) (aCons (eC (.int 0)) (aCons (eC (.int 0)) (aCons (eBin (oAdd true) (eC (.int 1)) (eCall bLen (aCons (eVar 0) aNil))) aNil))))))
  sNil)
noncomputable def m__law_tape : FA := fnR 1 1 true b__law_tape
noncomputable def b__law_take : MS := (sSeq (sIf (tCmp cLt (eIt (eVar 0) (eC (.int 2))) (eVar 1)) (sSeq (sIf (tCmp cLt (eIt (eVar 0) (eC (.int 1))) (eCall bLen (aCons (eIt (eVar 0) (eC (.int 0))) aNil))) (sSeq (sSet 2 (eIt (eIt (eVar 0) (eC (.int 0))) (eIt (eVar 0) (eC (.int 1)))))
  (sSeq (sSet 2 (eIte (tCmp cGe (eVar 2) (eC (.int 0))) (eBin oMul (eC (.int 2)) (eVar 2)) (eBin oSub (eBin oMul (eNeg (eC (.int 2))) (eVar 2)) (eC (.int 1)))))
  (sSeq (sPu (eVar 0) (eC (.int 1)) (eBin (oAdd false) (eIt (eVar 0) (eC (.int 1))) (eC (.int 1))))
  (sSeq (sPu (eVar 0) (eC (.int 3)) (eCall m__law_mix (aCons (eBin (oAdd false) (eIt (eVar 0) (eC (.int 3))) (eVar 2)) aNil)))
  (sSeq (sPu (eVar 0) (eC (.int 2)) (eIte (tCmp cGe (eVar 2) (eBin oPow (eC (.int 10)) (eC (.int 18)))) (eVar 2) (eCall m__law_mix (aCons (eBin (oAdd false) (eCall m__law_mix (aCons (eVar 2) aNil)) (eIt (eVar 0) (eC (.int 1)))) aNil))))
  sNil))))) (sSeq (sPu (eVar 0) (eC (.int 3)) (eCall m__law_mix (aCons (eBin (oAdd false) (eIt (eVar 0) (eC (.int 3))) (eC (.int 1))) aNil)))
  (sSeq (sPu (eVar 0) (eC (.int 2)) (eIt (eVar 0) (eC (.int 3))))
  sNil)))
  sNil) sNil)
  (sSeq (sSet 3 (eBin oMod (eCall bInt (aCons (eIt (eVar 0) (eC (.int 2))) aNil)) (eVar 1)))
  (sSeq (sPu (eVar 0) (eC (.int 2)) (eBin oDiv (eIt (eVar 0) (eC (.int 2))) (eVar 1)))
  (sSeq (sRet (eVar 3))
  sNil))))
noncomputable def m__law_take : FA := fnR 2 4 false b__law_take
theorem R_retd {own : Bool} {s s' : Sto} {x : PyData} {Q : D → Sto → Prop} : R (ret own s (.d x) s') Q ↔ Q (.d x) (trim s s') := R_some
theorem mix_sq (s : Sto) (x : Int) : oMul s (.d (.int (x % 18446744073709551616))) (.d (.int (x % 18446744073709551616))) = some (.d (.int (x % 18446744073709551616 * (x % 18446744073709551616))), s) := by
  have h : (x % 18446744073709551616).natAbs < 2 ^ 256 := Nat.lt_of_lt_of_le (m := 2 ^ 64) (by omega) (Nat.pow_le_pow_right (by omega) (by omega))
  exact v_mulS h h
def mixA (i : Int) : Int := (i * 6364136223846793005 + 1442695040888963407) % 18446744073709551616
def mixI (i : Int) : Int := (mixA i * mixA i / 4294967296 + mixA i * 69621) % 18446744073709551557
theorem mix_ok (s : Sto) (i : Int) : m__law_mix s [.d (.int i)] = some (.d (.int (mixI i)), s) := by
  apply R.eq
  unfold m__law_mix b__law_mix
  simp [R_fn, R_retd, v_mulR, v_mod, mix_sq, v_div, mixI, mixA]
/-- the tape stands in cells 0 and 1, what follows is kept -/
def tp (xs : List Int) (p q r : Int) (rest : Sto) : Sto := .lst (xs.map fun i => .d (.int i)) :: .lst [.r 0, .d (.int p), .d (.int q), .d (.int r)] :: rest
def TS (rest s : Sto) : Prop := ∃ xs p q r, 0 ≤ p ∧ s = tp xs p q r rest
section
variable {xs : List Int} {p q r : Int} {rest : Sto}
theorem tp_0 : itF (tp xs p q r rest) (.r 1) (.d (.int 0)) = some (.r 0) := itF_l rfl rfl
theorem tp_1 : itF (tp xs p q r rest) (.r 1) (.d (.int 1)) = some (.d (.int p)) := itF_l rfl rfl
theorem tp_2 : itF (tp xs p q r rest) (.r 1) (.d (.int 2)) = some (.d (.int q)) := itF_l rfl rfl
theorem tp_3 : itF (tp xs p q r rest) (.r 1) (.d (.int 3)) = some (.d (.int r)) := itF_l rfl rfl
theorem tp_len : bLen (tp xs p q r rest) [.r 0] = some (.d (.int xs.length), tp xs p q r rest) := by
  rw [len_r (s := tp xs p q r rest) (j := 0) (ds := xs.map fun i => .d (.int i)) rfl, List.length_map]
theorem tp_at (h0 : 0 ≤ p) (h : p < xs.length) : ∃ c : Int, itF (tp xs p q r rest) (.r 0) (.d (.int p)) = some (.d (.int c)) := by
  have hp : p.toNat < xs.length := by omega
  exact ⟨xs[p.toNat], itF_l (ds := xs.map fun i => .d (.int i)) rfl (atI_int h0 (by rw [List.getElem?_map, List.getElem?_eq_getElem hp]; rfl))⟩
theorem pt_1 {v : Int} : putF (tp xs p q r rest) (.r 1) (.d (.int 1)) (.d (.int v)) = some (tp xs v q r rest) := putF_l (k := 1) (ds := [.r 0, .d (.int p), .d (.int q), .d (.int r)]) rfl rfl
theorem pt_2 {v : Int} : putF (tp xs p q r rest) (.r 1) (.d (.int 2)) (.d (.int v)) = some (tp xs p v r rest) := putF_l (k := 2) (ds := [.r 0, .d (.int p), .d (.int q), .d (.int r)]) rfl rfl
theorem pt_3 {v : Int} : putF (tp xs p q r rest) (.r 1) (.d (.int 3)) (.d (.int v)) = some (tp xs p q v rest) := putF_l (k := 3) (ds := [.r 0, .d (.int p), .d (.int q), .d (.int r)]) rfl rfl
theorem tp_trim {p' q' r' : Int} : trim (tp xs p q r rest) (tp xs p' q' r' rest) = tp xs p' q' r' rest :=
  trim_set' (s := tp xs p q r rest) (j := 1) (c := .lst [.r 0, .d (.int p'), .d (.int q'), .d (.int r')]) (by unfold Cell.below; simp [tp])
end
theorem take_ok {rest s : Sto} {m : Int} (h : TS rest s) (h0 : 0 < m) (h1 : m < 2 ^ 256) : R (m__law_take s [.r 1, .d (.int m)]) fun x s' => ∃ d : Int, x = .d (.int d) ∧ 0 ≤ d ∧ d < m ∧ TS rest s' := by
  obtain ⟨xs, p, q, r, hp, rfl⟩ := h
  have T (p' q' r' : Int) (hp : 0 ≤ p') : TS rest (tp xs p' q' r' rest) := ⟨xs, p', q', r', hp, rfl⟩
  have M (q' : Int) : 0 ≤ q' % m ∧ q' % m < m := ⟨Int.emod_nonneg _ (by omega), Int.emod_lt_of_pos _ h0⟩
  unfold m__law_take b__law_take
  simp [tp_0, tp_1, tp_2, tp_3, tp_len, Rs_pu, R_it, R_fn, pt_1, pt_2, pt_3, v_mod h0, v_div h0 h1, R_retd, tp_trim, M, mix_ok]
  refine ⟨fun _ => ⟨fun h => ?_, fun _ => T _ _ _ hp⟩, fun _ => T _ _ _ hp⟩
  obtain ⟨c, hc⟩ := tp_at (xs := xs) (p := p) (q := q) (r := r) (rest := rest) hp h
  have T' (q' r' : Int) : TS rest (tp xs (p + 1) q' r' rest) := T _ _ _ (by omega)
  simp [hc, v_mulL, v_pow, tp_0, tp_1, tp_2, tp_3, pt_1, pt_2, pt_3, v_mod h0, v_div h0 h1, R_retd, tp_trim, M, mix_ok, T']
end N

namespace N
open PySem L2 PyProof.Rows

noncomputable def b__law_same (rec : FA) : MS := (sSeq (sIf (tOr (tAnd (tVal (eIsi .tup (eVar 0))) (tVal (eIsi .tup (eVar 1)))) (tAnd (tVal (eIsi .lst (eVar 0))) (tVal (eIsi .lst (eVar 1))))) (sSeq (sRet (eAnd (eCmp cEq (eCall bLen (aCons (eVar 0) aNil)) (eCall bLen (aCons (eVar 1) aNil))) (eCall bAll (aCons (eLc false [2] (iRng1 (aCons (eCall bLen (aCons (eVar 0) aNil)) aNil)) (gName 2) tTrue (eCall rec (aCons (eIt (eVar 0) (eVar 2)) (aCons (eIt (eVar 1) (eVar 2)) aNil)))) aNil))))
  sNil) sNil)
  (sSeq (sIf (tOr (tVal (eIsi .bl (eVar 0))) (tVal (eIsi .bl (eVar 1)))) (sSeq (sRet (eAnd (eIsi .bl (eVar 0)) (eAnd (eIsi .bl (eVar 1)) (eCmp cEq (eVar 0) (eVar 1)))))
  sNil) sNil)
  (sSeq (sIf (tOr (tAnd (tVal (eIsi .int (eVar 0))) (tVal (eIsi .int (eVar 1)))) (tAnd (tVal (eIsi .str (eVar 0))) (tVal (eIsi .str (eVar 1))))) (sSeq (sRet (eCmp cEq (eVar 0) (eVar 1)))
  sNil) sNil)
  (sSeq (sRet (eAnd (eCmp (cIsN false) (eVar 0) (eC .none)) (eCmp (cIsN false) (eVar 1) (eC .none))))
  sNil))))
noncomputable def m__law_same : Nat → FA
  | 0 => fun _ _ => none
  | n + 1 => fnR 2 3 false (b__law_same (m__law_same n))
/-- data that is equal to itself, of no great depth -/
def sok : Nat → PyData → Prop
  | 0, _ => False
  | n + 1, .tuple xs => xs.length ≤ lim ∧ ∀ x ∈ xs, sok n x
  | n + 1, .list xs => xs.length ≤ lim ∧ ∀ x ∈ xs, sok n x
  | _ + 1, .dict _ => False
  | _ + 1, _ => True
theorem sok_int (n : Nat) (i : Int) : sok (n + 1) (.int i) := by unfold sok; trivial
theorem sok_tup {n : Nat} {xs : List PyData} (hl : xs.length ≤ lim) (h : ∀ x ∈ xs, sok n x) : sok (n + 1) (.tuple xs) := ⟨hl, h⟩
theorem bools_true (xs : List Nat) : bools ((xs.map fun _ => PyData.bool true).map D.d) = some (xs.map fun _ => true) := by
  induction xs with
  | nil => rfl
  | cons x xs ih => simp only [List.map_cons, bools, ih]
theorem v_all {s : Sto} (xs : List Nat) : bAll s [.d (.list (xs.map fun _ => PyData.bool true))] = some (.d (.bool true), s) := by
  unfold bAll qL f1 asL
  simp only [bools_true]
  simp
theorem rng_mem {k n : Nat} (h : k ∈ List.range n) : k < n := List.mem_range.mp h
theorem same_row {F : FA} {xs : List PyData} {s : Sto} {Q : D → Sto → Prop} {l0 : Option D} {d : D} (hd : d = .d (.tuple xs) ∨ d = .d (.list xs)) (hl : xs.length ≤ lim) (h : ∀ x ∈ xs, ∀ s, F s [.d x, .d x] = some (.d (.bool true), s)) (q : Q (.d (.list ((List.range xs.length).map fun _ => .bool true))) s) :
    R (eLc false [2] (iRng1 (aCons (eCall bLen (aCons (eVar 0) aNil)) aNil)) (gName 2) tTrue (eCall F (aCons (eIt (eVar 0) (eVar 2)) (aCons (eIt (eVar 1) (eVar 2)) aNil))) [some d, some d, l0] s) Q := by
  have hl' : xs.length ≤ 1000000 := hl
  refine R_lcm (List.range xs.length) (fun k => .d (.int ((0 : Int) + (k : Nat)))) (fun _ => .bool true) ?_ (fun k hk acc => ?_) (by simpa using hl) q
  · rcases hd with rfl | rfl
    · simp [rngD]
      omega
    · simp [rngD, len_l]
      omega
  · have hk := rng_mem hk
    have hx : xs[k]? = some xs[k] := List.getElem?_eq_getElem hk
    have hh : itF (s ++ [.lst acc]) d (.d (.int (k : Nat))) = some (.d xs[k]) := by
      rcases hd with rfl | rfl
      · exact itF_t (atI_nat hx)
      · exact itF_tl (atI_nat hx)
    simp [wipeN, R_it, hh, h _ (List.getElem_mem hk)]
theorem same_ok : ∀ (n : Nat) (x : PyData) (s : Sto), sok n x → m__law_same n s [.d x, .d x] = some (.d (.bool true), s)
  | 0, _, _, h => h.elim
  | n + 1, x, s, h => by
    apply R.eq
    unfold m__law_same b__law_same
    cases x with
    | tuple xs =>
      obtain ⟨hl, h⟩ := h
      simp [R_fn, TyT.of, Z.isTup, Z.isLst, Z.isBl, Z.isInt, Z.isStr]
      refine same_row (.inl rfl) hl (fun x hx s => same_ok n x s (h x hx)) ?_
      simp [v_all, R_retd]
    | list xs =>
      obtain ⟨hl, h⟩ := h
      simp [R_fn, TyT.of, Z.isTup, Z.isLst, Z.isBl, Z.isInt, Z.isStr, len_l]
      refine same_row (.inr rfl) hl (fun x hx s => same_ok n x s (h x hx)) ?_
      simp [v_all, R_retd]
    | dict kvs => exact h.elim
    | int i => simp [R_fn, TyT.of, Z.isTup, Z.isLst, Z.isBl, Z.isInt, Z.isStr, R_retd]
    | bool i => simp [R_fn, TyT.of, Z.isTup, Z.isLst, Z.isBl, Z.isInt, Z.isStr, R_retd]
    | str i => simp [R_fn, TyT.of, Z.isTup, Z.isLst, Z.isBl, Z.isInt, Z.isStr, R_retd]
    | none => simp [R_fn, TyT.of, Z.isTup, Z.isLst, Z.isBl, Z.isInt, Z.isStr, R_retd]
theorem R_same {n : Nat} {x : PyData} {s : Sto} {Q : D → Sto → Prop} (h : sok n x) (q : Q (.d (.bool true)) s) : R (m__law_same n s [.d x, .d x]) Q := .of (same_ok n x s h) q

/-! ### the tape at the start -/
theorem data_mapf {α : Type} (f : α → PyData) (l : List α) : data (l.map (D.d ∘ f)) = some (l.map f) := by
  rw [← List.map_map, data_map]
theorem ret_own {s s' : Sto} {j : Nat} {Q : D → Sto → Prop} (h : s.length ≤ j) : R (ret true s (.r j) s') Q ↔ Q (.r j) s' := by
  unfold ret
  simp only [if_neg (show ¬ j < s.length by omega), if_true, R_some]
theorem R_tape {ns : List Int} {Q : D → Sto → Prop} (q : ∀ s, TS [] s → Q (.r 1) s) : R (m__law_tape [] [.d (.list (ns.map .int))]) Q := by
  unfold m__law_tape b__law_tape
  simp [R_fn, asL, cutD_map, data_mapf, v_list, len_l, ret_own, lim]
  exact q _ ⟨cutD ns none (some 80), 0, 0, 1 + ns.length, by omega, by simp [tp]⟩
end N

namespace N
open PySem L2 PyProof.Rows

/-! ### the sum without carry -/
theorem or_split (a : Nat) : ∀ b : Nat, a ||| b = (a ^^^ b) + (a &&& b) := by
  induction a using Nat.strongRecOn with
  | _ a ih =>
    intro b
    by_cases h : a = 0
    · subst h; simp
    · have h1 := ih (a / 2) (by omega) (b / 2)
      have o := Nat.or_div_two (a := a) (b := b)
      have x := Nat.xor_div_two (a := a) (b := b)
      have n := Nat.and_div_two (a := a) (b := b)
      have o2 := Nat.or_mod_two_pow (a := a) (b := b) (n := 1)
      have x2 := Nat.xor_mod_two_pow (a := a) (b := b) (n := 1)
      have n2 := Nat.and_mod_two_pow (a := a) (b := b) (n := 1)
      rw [← o, ← x, ← n] at h1
      simp only [Nat.pow_one] at o2 x2 n2
      rcases Nat.mod_two_eq_zero_or_one a with e | e <;> rcases Nat.mod_two_eq_zero_or_one b with f | f <;> rw [e, f] at o2 x2 n2 <;> simp only [Nat.reduceAnd, Nat.reduceXor, Nat.reduceOr, Nat.or_zero, Nat.zero_or, Nat.xor_zero, Nat.zero_xor, Nat.and_zero, Nat.zero_and] at o2 x2 n2 <;> omega
theorem bitOr_nat (a b : Nat) : Builtin.bitOr (a : Int) (b : Int) = ((a ||| b : Nat) : Int) := by
  unfold Builtin.bitOr Builtin.bitAnd Builtin.bitNot
  rw [show decide ((0 : Int) ≤ -(a : Int) - 1) = false by simp; omega, show decide ((0 : Int) ≤ -(b : Int) - 1) = false by simp; omega]
  simp only []
  rw [show (-(-(a : Int) - 1) - 1).toNat = a by omega, show (-(-(b : Int) - 1) - 1).toNat = b by omega]
  omega
theorem bitXor_nat (a b : Nat) : Builtin.bitXor (a : Int) (b : Int) = ((a ^^^ b : Nat) : Int) := by
  have h := or_split a b
  unfold Builtin.bitXor
  rw [bitOr_nat, bitAnd_pp (by omega) (by omega)]
  simp only [Int.toNat_natCast]
  omega
/-- .. of some -/
def xr : List Nat → Nat
  | [] => 0
  | n :: ns => n ^^^ xr ns
theorem xr_app (l m : List Nat) : xr (l ++ m) = xr l ^^^ xr m := by
  induction l with
  | nil => simp [xr]
  | cons a l ih => simp only [List.cons_append, xr, ih, Nat.xor_assoc]
theorem xr_bit (j : Nat) (ns : List Nat) : (xr ns).testBit j = decide ((ns.filter fun n => n.testBit j).length % 2 = 1) := by
  induction ns with
  | nil => simp [xr]
  | cons a ns ih =>
    simp only [xr, Nat.testBit_xor, ih, List.filter_cons]
    cases a.testBit j
    · simp
    · simp only [if_true, List.length_cons]
      by_cases h : (ns.filter fun n => n.testBit j).length % 2 = 1
      · simp [h]; omega
      · simp [h]; omega
theorem xr_lt {k : Nat} {ns : List Nat} (h : ∀ n ∈ ns, n < 2 ^ k) : xr ns < 2 ^ k := by
  induction ns with
  | nil => simpa [xr] using Nat.two_pow_pos k
  | cons a ns ih => exact Nat.xor_lt_two_pow (h a List.mem_cons_self) (ih fun n hn => h n (List.mem_cons_of_mem _ hn))
theorem mod_step (x j : Nat) : x % 2 ^ (j + 1) = x % 2 ^ j + (if x.testBit j then 2 ^ j else 0) := by
  have h : (x.testBit j = true) ↔ x / 2 ^ j % 2 = 1 := by rw [Nat.testBit_eq_decide_div_mod_eq, decide_eq_true_eq]
  have h2 : x % 2 ^ (j + 1) = x % 2 ^ j + 2 ^ j * (x / 2 ^ j % 2) := by rw [Nat.pow_succ, Nat.mod_mul]
  rw [h2]
  rcases Nat.mod_two_eq_zero_or_one (x / 2 ^ j) with e | e
  · rw [if_neg (by rw [h]; omega), e]; omega
  · rw [if_pos (h.mpr e), e]; omega
theorem odd_bit (n j : Nat) : (n / 2 ^ j / 2 * 2 ≠ n / 2 ^ j) ↔ n.testBit j = true := by
  rw [Nat.testBit_eq_decide_div_mod_eq, decide_eq_true_eq]
  omega
end N

namespace N
open PySem L2 PyProof.Rows

noncomputable def b_without_carry : MS := (sSeq (sSet 1 (eC (.int 0)))
  (sSeq (sFor (iSeq (eVar 0)) (gName 2) (sSeq (sAug 1 oXor (eVar 2))
  sNil) [2])
  (sSeq (sRet (eVar 1))
  sNil)))
noncomputable def m_without_carry : FA := fnR 1 3 false b_without_carry
noncomputable def b__law_xor : MS := (sSeq (sAsg (gTup (gsLenOk 2 (gsCons (gName 1) (gsCons (gName 2) gsNil)))) (eTup (aCons (eC (.int 0)) (aCons (eC (.int 1)) aNil))))
  (sSeq (sWhile (tCmp cLe (eVar 2) (eCall bMaxL (aCons (eBin (oAdd false) (eLst false (aCons (eC (.int 0)) aNil)) (eCall (bList false) (aCons (eVar 0) aNil))) aNil))) (sSeq (sIf (tCmp cNe (eBin oMul (eBin oDiv (eCall bLen (aCons (eLc false [3] (iSeq (eVar 0)) (gName 3) (tCmp cNe (eBin oMul (eBin oDiv (eBin oDiv (eVar 3) (eVar 2)) (eC (.int 2))) (eC (.int 2))) (eBin oDiv (eVar 3) (eVar 2))) (eC (.int 1))) aNil)) (eC (.int 2))) (eC (.int 2))) (eCall bLen (aCons (eLc false [3] (iSeq (eVar 0)) (gName 3) (tCmp cNe (eBin oMul (eBin oDiv (eBin oDiv (eVar 3) (eVar 2)) (eC (.int 2))) (eC (.int 2))) (eBin oDiv (eVar 3) (eVar 2))) (eC (.int 1))) aNil))) (sSeq (sSet 1 (eBin (oAdd false) (eVar 1) (eVar 2)))
  sNil) sNil)
  (sSeq (sSet 2 (eBin oMul (eVar 2) (eC (.int 2))))
  sNil)) [])
  (sSeq (sRet (eVar 1))
  sNil)))
noncomputable def m__law_xor : FA := fnR 1 4 false b__law_xor
noncomputable def b__law_missing : MS := (sSeq (sSet 1 (eC (.int 0)))
  (sSeq (sWhile (tCmp (cIn false) (eVar 1) (eVar 0)) (sSeq (sSet 1 (eBin (oAdd false) (eVar 1) (eC (.int 1))))
  sNil) [])
  (sSeq (sRet (eVar 1))
  sNil)))
noncomputable def m__law_missing : FA := fnR 1 2 false b__law_missing
noncomputable def b_least_missing : MS := (sSeq (sSet 1 (eDc [2] (iSeq (eVar 0)) (gName 2) tTrue (eVar 2) (eC (.bool true))))
  (sSeq (sSet 3 (eC (.int 0)))
  (sSeq (sWhile (tCmp (cIn false) (eVar 3) (eVar 1)) (sSeq (sAug 3 oIadd (eC (.int 1)))
  sNil) [])
  (sSeq (sRet (eVar 3))
  sNil))))
noncomputable def m_least_missing : FA := fnR 1 4 false b_least_missing
/-- a row of numbers -/
def nt (ns : List Nat) : List PyData := ns.map fun n => .int (n : Nat)
@[simp] theorem nt_len (ns : List Nat) : (nt ns).length = ns.length := by simp [nt]
theorem xr_fold (ns : List Nat) : ∀ i, (hi : i ≤ ns.length) → xr (ns.take i) ^^^ xr (ns.drop i) = xr ns := fun i _ => by rw [← xr_app, List.take_append_drop]
theorem xr_take {ns : List Nat} {i n : Nat} (h : ns[i]? = some n) : xr (ns.take (i + 1)) = xr (ns.take i) ^^^ n := by
  obtain ⟨hi, h⟩ := List.getElem?_eq_some_iff.mp h
  subst h
  rw [List.take_succ_eq_append_getElem hi, xr_app]
  simp [xr]
theorem carry_ok (ns : List Nat) (s : Sto) : m_without_carry s [.d (.tuple (nt ns))] = some (.d (.int (xr ns : Nat)), s) := by
  apply R.eq
  unfold m_without_carry b_without_carry
  simp [R_fn]
  refine Rs_for ns (fun n => .d (.int (n : Nat))) (fun i e s' => s' = s ∧ e = [some (.d (.tuple (nt ns))), some (.d (.int (xr (ns.take i) : Nat))), none]) ?_ (fun i n e s' hn hi => ?_) (fun e s' hi => ?_)
  · simp [nt, xr]
  · obtain ⟨rfl, rfl⟩ := hi
    simp [bitXor_nat, wipeN, xr_take hn]
  · obtain ⟨rfl, rfl⟩ := hi
    simp [R_retd]

def cnt (F : Nat) (ns : List Nat) : Nat := (ns.filter fun n => decide (n / F / 2 * 2 ≠ n / F)).length
theorem cnt_ok {ns : List Nat} {F : Nat} (h0 : 0 < F) (h1 : F < 2 ^ 256) (hl : ns.length ≤ lim) {d : Option D} {s : Sto} {Q : D → Sto → Prop} {t : D} (q : ∀ xs : List PyData, xs.length = cnt F ns → Q (.d (.list xs)) s) : R (eLc false [3] (iSeq (eVar 0)) (gName 3) (tCmp cNe (eBin oMul (eBin oDiv (eBin oDiv (eVar 3) (eVar 2)) (eC (.int 2))) (eC (.int 2))) (eBin oDiv (eVar 3) (eVar 2))) (eC (.int 1)) [some (.d (.tuple (nt ns))), some t, some (.d (.int (F : Nat))), d] s) Q := by
  refine R_lc ns (fun n => .d (.int (n : Nat))) (fun _ => .int 1) (fun n => decide (n / F / 2 * 2 ≠ n / F)) ?_ (fun n hn acc => ?_) hl (q _ ?_)
  · simp [nt]
  · have f0 : (0 : Int) < (F : Nat) := by omega
    have f1 : ((F : Nat) : Int) < 2 ^ 256 := by omega
    have key : (((n : Nat) : Int) / (F : Nat) / 2 * 2 = (n : Nat) / (F : Nat)) ↔ (n / F / 2 * 2 = n / F) := by exact_mod_cast Iff.rfl
    simp [wipeN, v_div, v_div f0 f1, v_mulR, key]
  · simp [cnt]
def ci (n : Nat) : Int := n
theorem max_ints (ns : List Nat) : ∃ m : Nat, ((0 :: ns).map ci).max? = some (m : Int) ∧ (m = 0 ∨ m ∈ ns) ∧ ∀ n ∈ ns, n ≤ m := by
  obtain ⟨m, hm⟩ : ∃ m, ((0 :: ns).map ci).max? = some m := ⟨_, List.max?_cons' ..⟩
  have h := List.max?_eq_some_iff.mp hm
  obtain ⟨h1, h2⟩ := h
  obtain ⟨k, hk, rfl⟩ := List.mem_map.mp h1
  refine ⟨k, hm, by simpa using hk, fun n hn => ?_⟩
  have := h2 _ (List.mem_map_of_mem (f := ci) (List.mem_cons_of_mem 0 hn))
  exact Int.ofNat_le.mp this
theorem R_max0 {ns : List Nat} {s : Sto} {Q : D → Sto → Prop} (q : ∀ m : Nat, (m = 0 ∨ m ∈ ns) → (∀ n ∈ ns, n ≤ m) → Q (.d (.int (m : Nat))) s) : R (bMaxL s [.d (.list (.int 0 :: nt ns))]) Q := by
  obtain ⟨m, h1, h2, h3⟩ := max_ints ns
  have e : intsOf ((PyData.int 0 :: nt ns).map D.d) = some ((0 :: ns).map ci) := by
    rw [← intsOf_ints]
    simp [nt]
    rfl
  unfold bMaxL qL f1 asL
  simp only [e, h1, R_some]
  exact q m h2 h3
theorem R_addL {xs ys : List PyData} {s : Sto} {Q : D → Sto → Prop} (hl : xs.length + ys.length ≤ lim) (q : Q (.d (.list (xs ++ ys))) s) : R (oAdd false s (.d (.list xs)) (.d (.list ys))) Q := by
  unfold oAdd asL
  simp only [List.length_map, if_pos hl]
  rw [← List.map_append, R_mkF, data_map]
  exact Rc_some.mpr q
theorem lxor_ok {ns : List Nat} (hl : ns.length ≤ 1000) (hn : ∀ n ∈ ns, n < 2 ^ 200) (s : Sto) : m__law_xor s [.d (.tuple (nt ns))] = some (.d (.int (xr ns : Nat)), s) := by
  apply R.eq
  unfold m__law_xor b__law_xor
  simp [R_fn]
  refine ⟨by decide, Rs_while (fun m e s' => ∃ j F : Nat, m + j = 201 ∧ F = 2 ^ j ∧ s' = s ∧ e = [some (.d (.tuple (nt ns))), some (.d (.int ((xr ns % 2 ^ j : Nat) : Int))), some (.d (.int (F : Nat))), none]) (m := 201) (by decide) ?_ (fun m e s' hi => ?_)⟩
  · exact ⟨0, 1, rfl, rfl, rfl, by simp [Nat.mod_one]⟩
  · obtain ⟨j, F, hm, hF, rfl, rfl⟩ := hi
    have hc : bList false s' [.d (.tuple (nt ns))] = some (.d (.list (nt ns)), s') := by
      unfold bList asSeq mkL
      simp [data_map]
    simp [hc]
    refine ⟨by decide, R_addL (by simp [lim]; omega) (R_max0 fun k hk hk2 => ?_)⟩
    simp only [Rc_some, decide_eq_false_iff_not, decide_eq_true_eq, v_le]
    refine ⟨fun hkF => ?_, fun hFk => ?_⟩
    · have : ∀ n ∈ ns, n < 2 ^ j := fun n hn => by have := hk2 n hn; omega
      have := xr_lt this
      have e : ((xr ns : Nat) : Int) % 2 ^ j = (xr ns : Nat) := by exact_mod_cast Nat.mod_eq_of_lt this
      simp [R_retd, e]
    · have hkF : F ≤ k := by exact_mod_cast hFk
      have hj : j < 200 := by
        rcases hk with rfl | hk
        · have := Nat.two_pow_pos j
          omega
        · have := hn k hk
          exact (Nat.pow_lt_pow_iff_right (by decide)).mp (show 2 ^ j < 2 ^ 200 by omega)
      have f0 : 0 < F := by rw [hF]; exact Nat.two_pow_pos j
      have f1 : F < 2 ^ 256 := by rw [hF]; exact Nat.pow_lt_pow_right (by decide) (by omega)
      have C : ∀ {Q : D → Sto → Prop} (q : ∀ xs : List PyData, xs.length = cnt F ns → Q (.d (.list xs)) s'), R (eLc false [3] (iSeq (eVar 0)) (gName 3) (tCmp cNe (eBin oMul (eBin oDiv (eBin oDiv (eVar 3) (eVar 2)) (eC (.int 2))) (eC (.int 2))) (eBin oDiv (eVar 3) (eVar 2))) (eC (.int 1)) [some (.d (.tuple (nt ns))), some (.d (.int ((xr ns % 2 ^ j : Nat) : Int))), some (.d (.int (F : Nat))), none] s') Q := fun q => cnt_ok f0 f1 (by simp [lim]; omega) q
      have odd : (xr ns % 2 ^ (j + 1)) = xr ns % 2 ^ j + (if cnt F ns / 2 * 2 ≠ cnt F ns then F else 0) := by
        rw [mod_step, xr_bit, hF]
        have : cnt (2 ^ j) ns = (ns.filter fun n => n.testBit j).length := by
          unfold cnt
          congr 2
          funext n
          rw [Bool.eq_iff_iff, decide_eq_true_eq]
          exact odd_bit n j
        rw [this]
        congr 1
        simp only [decide_eq_true_eq]
        by_cases h : (ns.filter fun n => n.testBit j).length % 2 = 1
        · rw [if_pos h, if_pos (by omega)]
        · rw [if_neg h, if_neg (by omega)]
      have key : ((cnt F ns : Nat) : Int) / 2 * 2 = (cnt F ns : Nat) ↔ cnt F ns / 2 * 2 = cnt F ns := by omega
      refine C fun xs hx => ?_
      simp [len_l, hx, v_div, v_mulR]
      refine C fun ys hy => ?_
      simp [len_l, hy, key]
      refine ⟨fun ho => ?_, fun he => ?_⟩
      · rw [if_pos ho] at odd
        have o : ((xr ns : Nat) : Int) % 2 ^ (j + 1) = (xr ns : Nat) % 2 ^ j + (F : Nat) := by exact_mod_cast odd
        have fj : ((F : Nat) : Int) * 2 = 2 ^ (j + 1) := by rw [hF]; exact_mod_cast (Nat.pow_succ 2 j).symm
        exact ⟨m - 1, by omega, j + 1, by omega, by simp [wipeN, o, fj]⟩
      · rw [if_neg (by omega)] at odd
        have o : ((xr ns : Nat) : Int) % 2 ^ (j + 1) = (xr ns : Nat) % 2 ^ j := by exact_mod_cast odd
        have fj : ((F : Nat) : Int) * 2 = 2 ^ (j + 1) := by rw [hF]; exact_mod_cast (Nat.pow_succ 2 j).symm
        exact ⟨m - 1, by omega, j + 1, by omega, by simp [wipeN, o, fj]⟩
end N

namespace N
open PySem L2 PyProof.Rows

/-! ### methods of rows, a dict of numbers -/
def Rm (o : Option (List D × D)) (Q : List D → D → Prop) : Prop := ∃ ys z, o = some (ys, z) ∧ Q ys z
@[simp] theorem Rm_some {ys : List D} {z : D} {Q : List D → D → Prop} : Rm (some (ys, z)) Q ↔ Q ys z := ⟨fun ⟨_, _, h, q⟩ => by cases h; exact q, fun q => ⟨_, _, rfl, q⟩⟩
@[simp] theorem Rm_none {Q : List D → D → Prop} : Rm none Q ↔ False := ⟨fun ⟨_, _, h, _⟩ => (by cases h), False.elim⟩
theorem trim_len {s s' : Sto} (h : s'.length = s.length) : trim s s' = s' := by
  unfold trim
  split
  · rw [← h, List.take_length]
  · rfl
theorem trimE_len {s s' : Sto} {e : Lo} (h : s'.length = s.length) : trimE s e s' = s' := by
  unfold trimE
  split
  · exact trim_len h
  · rfl
@[simp] theorem trimE_last {s : Sto} {c c' : Cell} {e : Lo} : trimE (s ++ [c]) e (s ++ [c']) = s ++ [c'] := trimE_len (by simp)
@[simp] theorem set_last {s : Sto} {c c' : Cell} : (s ++ [c]).set s.length c' = s ++ [c'] := by
  rw [List.set_append_right _ _ (Nat.le_refl _), Nat.sub_self]
  rfl
section
variable {e : Lo} {s : Sto} {Q : D → Sto → Prop}
@[simp] theorem R_meth (f : FM) (ma : ME) (ms : MA) : R (eMeth f ma ms e s) Q ↔ R (ma e s) fun o s1 => match o with
  | .r j => match s1[j]? with
    | some (.lst _) => R (ms e s1) fun ds s2 => match s2[j]? with
      | some (.lst xs) => Rm (f s2 xs ds) fun ys z => Q z (s2.set j (.lst ys))
      | _ => False
    | _ => False
  | _ => False := by
  unfold eMeth
  rcases ma e s with _ | ⟨o, s1⟩
  · simp
  · rcases o with x | j
    · simp
    · simp only [R_some]
      rcases s1[j]? with _ | c
      · simp
      · rcases c with ds | kvs | kvs | _
        · rcases h : ms e s1 with _ | ⟨as, s2⟩
          · simp [h]
          · simp only [h, R_some]
            rcases s2[j]? with _ | c
            · simp
            · rcases c with xs | kvs | kvs | _
              · simp only []
                rcases h2 : f s2 xs as with _ | ⟨ys, z⟩ <;> simp [h2]
              · simp
              · simp
              · simp
        · simp
        · simp
        · simp
@[simp] theorem v_app {xs : List D} {d : D} {Qm : List D → D → Prop} : Rm (fApp s xs [d]) Qm ↔ xs.length < lim ∧ Qm (xs ++ [d]) (.d .none) := by
  unfold fApp
  by_cases h : xs.length < lim <;> simp [h]
theorem v_ext {xs ys : List D} {d : D} {Qm : List D → D → Prop} (h : asL s d = some ys) : Rm (fExt s xs [d]) Qm ↔ xs.length + ys.length ≤ lim ∧ Qm (xs ++ ys) (.d .none) := by
  unfold fExt
  by_cases hl : xs.length + ys.length ≤ lim <;> simp [h, hl]
@[simp] theorem v_extL {xs : List D} {ys : List PyData} {Qm : List D → D → Prop} : Rm (fExt s xs [.d (.list ys)]) Qm ↔ xs.length + ys.length ≤ lim ∧ Qm (xs ++ ys.map .d) (.d .none) := by
  rw [v_ext (ys := ys.map .d) rfl, List.length_map]
end
theorem kHas_put {kvs : List (Key × D)} {k k' : Key} {d : D} : kHas (kPut kvs k d) k' = true ↔ k' = k ∨ kHas kvs k' = true := by
  unfold kPut kHas
  split
  · rename_i h
    simp only [List.any_map, List.any_eq_true, Function.comp, decide_eq_true_eq] at h ⊢
    constructor
    · rintro ⟨kv, hm, he⟩
      split at he
      · exact .inr ⟨kv, hm, he⟩
      · exact .inr ⟨kv, hm, he⟩
    · rintro (rfl | ⟨kv, hm, he⟩)
      · obtain ⟨kv, hm, he⟩ := h
        exact ⟨kv, hm, by split <;> exact he⟩
      · exact ⟨kv, hm, by split <;> exact he⟩
  · simp only [List.any_append, List.any_cons, List.any_nil, Bool.or_false, Bool.or_eq_true, decide_eq_true_eq]
    constructor
    · rintro (h | h)
      · exact .inr h
      · exact .inl h.symm
    · rintro (h | h)
      · exact .inr h.symm
      · exact .inl h
theorem kPut_len {kvs : List (Key × D)} {k : Key} {d : D} : (kPut kvs k d).length ≤ kvs.length + 1 := by
  unfold kPut
  split <;> simp
/-- a dict of the keys of some -/
theorem R_dc {α : Type} (l : List α) (enc : α → D) (kf : α → PyData) (kk : α → Key) (df : α → D) {vs : List Nat} {mi : MI} {g : MG} {ek el : ME} {e : Lo} {s : Sto} {Q : D → Sto → Prop} (hi : Ri (mi e s) fun items ck s1 => items = l.map enc ∧ ck = none ∧ s1 = s)
    (h : ∀ x ∈ l, ∀ s', Rc (g (enc x) (wipeN e vs)) fun e1 => R (ek e1 s') fun d s3 => d = .d (kf x) ∧ s3 = s' ∧ R (el e1 s') fun d s3 => d = df x ∧ s3 = s') (hk : ∀ x ∈ l, keyOf (kf x) = some (kk x)) (hl : l.length ≤ lim)
    (q : ∀ kvs : List (Key × D), (∀ k, kHas kvs k = true ↔ ∃ x ∈ l, k = kk x) → Q (.r s.length) (s ++ [.dk kvs])) : R (eDc vs mi g tTrue ek el e s) Q := by
  obtain ⟨_, _, _, h1, rfl, rfl, rfl⟩ := hi
  rename_i s
  have run : ∀ (m : List α) (kvs : List (Key × D)), (∀ x ∈ m, x ∈ l) → kvs.length + m.length ≤ lim → ∃ kvs', dcL s.length none g tTrue ek el (wipeN e vs) (m.map enc) (s ++ [.dk kvs]) = some (s ++ [.dk kvs']) ∧ ∀ k, kHas kvs' k = true ↔ kHas kvs k = true ∨ ∃ x ∈ m, k = kk x := by
    intro m
    induction m with
    | nil =>
      intro kvs _ _
      refine ⟨kvs, ?_, fun k => by simp⟩
      rw [List.map_nil]
      unfold dcL
      rw [if_pos (ck_none _)]
    | cons x m ih =>
      intro kvs hm hl
      rw [List.length_cons] at hl
      obtain ⟨e1, h2, d, s3, h3, rfl, rfl, d2, s4, h4, rfl, rfl⟩ := h x (hm x List.mem_cons_self) (s ++ [.dk kvs])
      have hl2 := kPut_len (kvs := kvs) (k := kk x) (d := df x)
      obtain ⟨kvs', h5, h6⟩ := ih (kPut kvs (kk x) (df x)) (fun y hy => hm y (List.mem_cons_of_mem _ hy)) (by omega)
      refine ⟨kvs', ?_, fun k => ?_⟩
      · rw [List.map_cons]
        unfold dcL
        rw [if_pos (ck_none _)]
        simp only [h2, tTrue, h3, h4]
        rw [List.getElem?_append_right (Nat.le_refl _), Nat.sub_self]
        simp only [List.getElem?_cons_zero, hk x (hm x List.mem_cons_self)]
        rw [if_pos (by omega), set_last]
        exact h5
      · rw [h6, kHas_put, show (∃ y, y ∈ x :: m ∧ k = kk y) ↔ k = kk x ∨ ∃ y, y ∈ m ∧ k = kk y by simp]
        constructor
        · rintro ((h | h) | h)
          · exact .inr (.inl h)
          · exact .inl h
          · exact .inr (.inr h)
        · rintro (h | h | h)
          · exact .inl (.inr h)
          · exact .inl (.inl h)
          · exact .inr h
  obtain ⟨kvs, h2, h3⟩ := run l [] (fun _ h => h) (by simpa using hl)
  refine R.of (x := .r s.length) (s := s ++ [.dk kvs]) ?_ (q kvs fun k => by rw [h3]; simp [kHas])
  unfold eDc
  simp only [h1, h2]
end N

namespace N
open PySem L2 PyProof.Rows

noncomputable def b_nim_moves : MS := (sSeq (sSet 1 (eCall m_without_carry (aCons (eVar 0) aNil)))
  (sSeq (sSet 2 (eLst true aNil))
  (sSeq (sFor (iEnum (aCons (eVar 0) aNil)) (gTup (gsLenOk 2 (gsCons (gName 3) (gsCons (gName 4) gsNil)))) (sSeq (sIf (tCmp cLt (eBin oXor (eVar 4) (eVar 1)) (eVar 4)) (sSeq (sExpr (eMeth fApp (eVar 2) (aCons (eTup (aCons (eVar 3) (aCons (eBin oXor (eVar 4) (eVar 1)) aNil))) aNil)))
  sNil) sNil)
  sNil) [3, 4])
  (sSeq (sRet (eCall bTuple (aCons (eVar 2) aNil)))
  sNil))))
noncomputable def m_nim_moves : FA := fnR 1 5 false b_nim_moves
/-- the least that is missing -/
def Mex (ns : List Nat) (k : Nat) : Prop := (∀ i < k, i ∈ ns) ∧ k ∉ ns
theorem Mex.uniq {ns : List Nat} {k k' : Nat} (h : Mex ns k) (h' : Mex ns k') : k = k' := by
  rcases Nat.lt_trichotomy k k' with l | l | l
  · exact (h.2 (h'.1 k l)).elim
  · exact l
  · exact (h'.2 (h.1 k' l)).elim
theorem mem_nt {ns : List Nat} {k : Nat} : PyData.int (k : Nat) ∈ nt ns ↔ k ∈ ns := by
  unfold nt
  rw [List.mem_map]
  constructor
  · rintro ⟨a, h, e⟩
    have : a = k := by simp at e; omega
    exact this ▸ h
  · exact fun h => ⟨k, h, rfl⟩
theorem pks_nt (ns : List Nat) : pks (nt ns) = true := pks_iff.mpr (by simp [nt, pk])
theorem v_inNt {neg : Bool} {ns : List Nat} {k : Nat} {s : Sto} : cIn neg s (.d (.int (k : Nat))) (.d (.tuple (nt ns))) = some (if neg then !decide (k ∈ ns) else decide (k ∈ ns)) := by
  rw [v_inT rfl (pks_nt ns) rfl (by simp [PyData.depth])]
  simp only [mem_nt]
theorem R_lmiss {ns : List Nat} {M : Nat} (hM : ∀ n ∈ ns, n < M) (hM2 : M < 2 ^ 63) {s : Sto} {Q : D → Sto → Prop} (q : ∀ k, Mex ns k → Q (.d (.int (k : Nat))) s) : R (m__law_missing s [.d (.tuple (nt ns))]) Q := by
  unfold m__law_missing b__law_missing
  simp [R_fn]
  refine Rs_while (fun m e s' => s' = s ∧ ∃ k, (∀ i < k, i ∈ ns) ∧ m + k = M ∧ e = [some (.d (.tuple (nt ns))), some (.d (.int (k : Nat)))]) (m := M) (by omega) ⟨rfl, 0, by simp, by simp, rfl⟩ (fun m e s' hi => ?_)
  obtain ⟨rfl, k, h1, h2, rfl⟩ := hi
  simp [v_inNt]
  refine ⟨fun h => ?_, fun h => ?_⟩
  · exact q k ⟨h1, h⟩
  · have := hM k h
    refine ⟨m - 1, by omega, k + 1, fun i hi => ?_, by omega, by simp [wipeN]⟩
    rcases Nat.lt_or_ge i k with h' | h'
    · exact h1 i h'
    · rwa [show i = k by omega]
theorem R_miss {ns : List Nat} {M : Nat} (hl : ns.length ≤ lim) (hM : ∀ n ∈ ns, n < M) (hM2 : M < 2 ^ 63) {s : Sto} {Q : D → Sto → Prop} (q : ∀ k, Mex ns k → Q (.d (.int (k : Nat))) s) : R (m_least_missing s [.d (.tuple (nt ns))]) Q := by
  unfold m_least_missing b_least_missing
  simp [R_fn]
  refine R_dc ns (fun n => .d (.int (n : Nat))) (fun n => .int (n : Nat)) (fun n => .inl (n : Nat)) (fun _ => .d (.bool true)) (by simp [nt]) (fun x hx s' => by simp [wipeN]) (fun x hx => rfl) hl (fun kvs hk => ?_)
  have hk' (k : Nat) : kHas kvs (.inl (k : Int)) = decide (k ∈ ns) := by
    rw [Bool.eq_iff_iff, hk, decide_eq_true_eq]
    constructor
    · rintro ⟨x, h, e⟩
      have : k = x := by simp at e; omega
      exact this ▸ h
    · exact fun h => ⟨k, h, rfl⟩
  refine Rs_while (fun m e s' => s' = s ++ [.dk kvs] ∧ ∃ k : Nat, (∀ i < k, i ∈ ns) ∧ m + k = M ∧ e = [some (.d (.tuple (nt ns))), some (.r s.length), none, some (.d (.int (k : Nat)))]) (m := M) (by omega) ⟨rfl, 0, by simp, by simp, rfl⟩ (fun m e s' hi => ?_)
  obtain ⟨rfl, k, h1, h2, rfl⟩ := hi
  have hin : cIn false (s ++ [.dk kvs]) (.d (.int (k : Nat))) (.r s.length) = some (decide (k ∈ ns)) := by
    rw [v_inK (kvs := kvs) (k := .inl (k : Nat)) (by simp) rfl, hk']
    simp
  simp [hin]
  refine ⟨fun h => ?_, fun h => ?_⟩
  · exact q k ⟨h1, h⟩
  · have := hM k h
    refine ⟨m - 1, by omega, k + 1, fun i hi => ?_, by omega, by simp [wipeN]⟩
    rcases Nat.lt_or_ge i k with h' | h'
    · exact h1 i h'
    · rwa [show i = k by omega]
/-- the moves of Nim -/
def mvs (T : Nat) (l : List (Nat × Nat)) : List PyData := (l.filter fun p => decide (p.1 ^^^ T < p.1)).map fun p => .tuple [.int (p.2 : Nat), .int ((p.1 ^^^ T : Nat) : Nat)]
theorem mvs_len (T : Nat) (l : List (Nat × Nat)) : (mvs T l).length ≤ l.length := by
  unfold mvs
  rw [List.length_map]
  exact List.length_filter_le _ _
theorem mvs_snoc (T : Nat) (l : List (Nat × Nat)) (p : Nat × Nat) : mvs T (l ++ [p]) = mvs T l ++ (if p.1 ^^^ T < p.1 then [.tuple [.int (p.2 : Nat), .int ((p.1 ^^^ T : Nat) : Nat)]] else []) := by
  unfold mvs
  rw [List.filter_append, List.map_append]
  by_cases h : p.1 ^^^ T < p.1 <;> simp [h]
theorem enum_nt (ns : List Nat) : enumD (nt ns) = ns.zipIdx.map fun p => .d (.tuple [.int (p.2 : Nat), .int (p.1 : Nat)]) := by
  rw [enumD_zip]
  unfold nt
  rw [List.zipIdx_map, List.map_map]
  rfl
theorem moves_ok {ns : List Nat} (hl : ns.length ≤ 1000) (s : Sto) : m_nim_moves s [.d (.tuple (nt ns))] = some (.d (.tuple (mvs (xr ns) ns.zipIdx)), s) := by
  apply R.eq
  unfold m_nim_moves b_nim_moves
  simp [R_fn, carry_ok]
  refine Rs_for ns.zipIdx (fun p => .d (.tuple [.int (p.2 : Nat), .int (p.1 : Nat)])) (fun i e s' => s' = s ++ [.lst ((mvs (xr ns) (ns.zipIdx.take i)).map .d)] ∧ e = [some (.d (.tuple (nt ns))), some (.d (.int (xr ns : Nat))), some (.r s.length), none, none]) ?_ (fun i p e s' hp hi => ?_) (fun e s' hi => ?_)
  · simp [enum_nt, mvs]
  · obtain ⟨rfl, rfl⟩ := hi
    have hx := mvs_len (xr ns) (ns.zipIdx.take i)
    have hx2 : (ns.zipIdx.take i).length ≤ ns.length := by rw [List.length_take, List.length_zipIdx]; omega
    have ht : ns.zipIdx.take (i + 1) = ns.zipIdx.take i ++ [p] := by rw [List.take_add_one, hp]; rfl
    simp [bitXor_nat, lim, wipeN, ht, mvs_snoc]
    intro h
    rw [if_pos h]
    exact ⟨by omega, rfl⟩
  · obtain ⟨rfl, rfl⟩ := hi
    rw [List.length_zipIdx, List.take_of_length_le (by simp)]
    simp [v_tupR (s := s ++ [.lst ((mvs (xr ns) ns.zipIdx).map .d)]) (j := s.length) (xs := mvs (xr ns) ns.zipIdx) (by simp)]
end N

namespace N
open PySem L2 PyProof.Rows

noncomputable def b__law_plain : MS := (sSeq (sRet (eCall bTuple (aCons (eCall (bSorted false) (aCons (eLc false [1] (iSeq (eVar 0)) (gName 1) (tCmp cGt (eVar 1) (eC (.int 0))) (eVar 1)) aNil)) aNil)))
  sNil)
noncomputable def m__law_plain : FA := fnR 1 2 false b__law_plain
/-! ### rows sorted -/
def so (l : List Nat) : List Nat := l.mergeSort fun a b => decide (a ≤ b)
theorem so_perm (l : List Nat) : (so l).Perm l := List.mergeSort_perm _ _
theorem nt_eq (l : List Nat) : nt l = l.map fun n => PyData.int ((fun n : Nat => (n : Int)) n) := rfl
theorem srt_nt (l : List Nat) : Z.srt (nt l) = nt (so l) := by
  unfold Z.srt so
  rw [nt_eq, nt_eq]
  refine (List.map_mergeSort (r := fun a b : Nat => decide (a ≤ b)) (s := PySem.W.dataLe false id) (f := fun n => PyData.int ((fun n : Nat => (n : Int)) n)) (l := l) fun a _ b _ => ?_).symm
  have := congrFun (congrFun (PySem.W.dataLe_int (β := Nat) fun n => (n : Int)) a) b
  rw [show PySem.W.dataLe false id (PyData.int ((fun n : Nat => (n : Int)) a)) (PyData.int ((fun n : Nat => (n : Int)) b)) = PySem.W.dataLe false (fun b : Nat => PyData.int ((fun n : Nat => (n : Int)) b)) a b from rfl, this]
  simp
theorem srtOk_nt (l : List Nat) : SrtOk (nt l) := by
  rw [nt_eq]
  refine ⟨PySem.W.AllAlike.of fun a b => by simp [PySem.W.alike], .inl (PySem.W.Sortable.others fun b => ⟨by simp, by simp⟩), fun d hd => ?_⟩
  obtain ⟨a, _, rfl⟩ := List.mem_map.mp hd
  simp [PyData.depth]
theorem depth_nt (l : List Nat) : (PyData.tuple (nt l)).depth ≤ 1 := by
  have : PyData.depthAll (nt l) = 0 := by
    induction l with
    | nil => rfl
    | cons a l ih => rw [nt, List.map_cons, PyData.depthAll]; rw [nt] at ih; rw [ih]; simp [PyData.depth]
  simp [PyData.depth, this]
theorem R_sortI {l : List Nat} {s : Sto} {Q : D → Sto → Prop} (q : Q (.d (.list (nt (so l)))) s) : R (bSorted false s [.d (.list (nt l))]) Q := by
  unfold bSorted asL
  simp only [data_map, if_pos (srtOk_nt l), R_mkF, srt_nt]
  exact Rc_some.mpr q
/-- the heaps that stand -/
def pl (l : List Nat) : List Nat := so (l.filter fun n => decide (0 < n))
theorem pl_row {l : List Nat} {mi : MI} {i : Nat} {e : Lo} {s : Sto} {Q : D → Sto → Prop} (hi : Ri (mi e s) fun items ck s1 => items = l.map (fun n => D.d (.int (n : Nat))) ∧ ck = none ∧ s1 = s) (hl : l.length ≤ lim) (he : i < e.length) (q : Q (.d (.tuple (nt (pl l)))) s) :
    R (eLc false [i] mi (gName i) (tCmp cGt (eVar i) (eC (.int 0))) (eVar i) e s) fun d s1 => R (bSorted false s1 [d]) fun d s1 => R (bTuple s1 [d]) Q := by
  refine R_lc l (fun n => .d (.int (n : Nat))) (fun n => .int (n : Nat)) (fun n => decide (0 < n)) hi (fun x hx acc => ?_) hl (R_sortI (l := l.filter fun n => decide (0 < n)) ?_)
  · simp [wipeN, he]
  · rw [v_tupL]
    exact R_some.mpr q
theorem plain_ok {l : List Nat} (hl : l.length ≤ lim) (s : Sto) : m__law_plain s [.d (.tuple (nt l))] = some (.d (.tuple (nt (pl l))), s) := by
  apply R.eq
  unfold m__law_plain b__law_plain
  simp [R_fn]
  exact pl_row (l := l) (by simp [nt]) hl (by simp) (by simp)
theorem xr_perm {l m : List Nat} (h : l.Perm m) : xr l = xr m := by
  induction h with
  | nil => rfl
  | cons a _ ih => simp only [xr, ih]
  | swap a b l => simp only [xr]; rw [← Nat.xor_assoc, ← Nat.xor_assoc, Nat.xor_comm a b]
  | trans _ _ h1 h2 => rw [h1, h2]
theorem sum_perm {l m : List Nat} (h : l.Perm m) : l.sum = m.sum := h.sum_nat
theorem sum_filter (l : List Nat) : (l.filter fun n => decide (0 < n)).sum = l.sum := by
  induction l with
  | nil => rfl
  | cons a l ih =>
    rw [List.filter_cons]
    by_cases h : 0 < a
    · simp [h, ih]
    · simp [h, ih]; omega
theorem pl_sum (l : List Nat) : (pl l).sum = l.sum := by rw [pl, sum_perm (so_perm _), sum_filter]
theorem pl_mem {l : List Nat} {n : Nat} : n ∈ pl l ↔ n ∈ l ∧ 0 < n := by
  rw [pl, (so_perm _).mem_iff, List.mem_filter, decide_eq_true_eq]
theorem xr_filter (v : Nat → Nat) (v0 : v 0 = 0) (l : List Nat) : xr ((l.filter fun n => decide (0 < n)).map v) = xr (l.map v) := by
  induction l with
  | nil => rfl
  | cons a l ih =>
    rw [List.filter_cons]
    by_cases h : 0 < a
    · simp [h, xr, ih]
    · have : a = 0 := by omega
      subst this
      simp [xr, ih, v0]
theorem pl_xr (v : Nat → Nat) (v0 : v 0 = 0) (l : List Nat) : xr ((pl l).map v) = xr (l.map v) := by
  rw [pl, xr_perm ((so_perm _).map v), xr_filter v v0]
theorem so_sorted (l : List Nat) : (so l).Pairwise (· ≤ ·) := by
  have := List.pairwise_mergeSort (le := fun a b : Nat => decide (a ≤ b)) (fun a b c h1 h2 => by simp at *; omega) (fun a b => by simp; omega) l
  simpa [so] using this
end N

namespace N
open PySem L2 PyProof.Rows

noncomputable def b__law_left : MS := (sSeq (sSet 2 (eLst true aNil))
  (sSeq (sFor (iRng2 (aCons (eC (.int 1)) (aCons (eBin (oAdd false) (eCall bMin2 (aCons (eVar 1) (aCons (eCall bLen (aCons (eVar 0) aNil)) aNil))) (eC (.int 1))) aNil))) (gName 3) (sSeq (sAsg (gTup (gsLenOk 2 (gsCons (gName 4) (gsCons (gName 5) gsNil)))) (eTup (aCons (eIt (eVar 0) (eBin oSub (eVar 3) (eC (.int 1)))) (aCons (eBin oSub (eVar 1) (eVar 3)) aNil))))
  (sSeq (sIf (tAnd (tCmp (cIn false) (eVar 4) (eTup (aCons (eC (.int 1)) (aCons (eC (.int 3)) (aCons (eC (.int 5)) (aCons (eC (.int 7)) aNil)))))) (tCmp cEq (eVar 5) (eC (.int 0)))) (sSeq (sExpr (eMeth fApp (eVar 2) (aCons (eTup aNil) aNil)))
  sNil) sNil)
  (sSeq (sIf (tAnd (tCmp (cIn false) (eVar 4) (eTup (aCons (eC (.int 2)) (aCons (eC (.int 3)) (aCons (eC (.int 6)) (aCons (eC (.int 7)) aNil)))))) (tCmp cGt (eVar 5) (eC (.int 0)))) (sSeq (sExpr (eMeth fApp (eVar 2) (aCons (eTup (aCons (eVar 5) aNil)) aNil)))
  sNil) sNil)
  (sSeq (sIf (tCmp cGt (eVar 4) (eC (.int 3))) (sSeq (sExpr (eMeth fExt (eVar 2) (aCons (eLc false [6] (iRng2 (aCons (eC (.int 1)) (aCons (eVar 5) aNil))) (gName 6) (tCmp cLe (eVar 6) (eBin oSub (eVar 5) (eVar 6))) (eTup (aCons (eVar 6) (aCons (eBin oSub (eVar 5) (eVar 6)) aNil)))) aNil)))
  sNil) sNil)
  sNil)))) [3, 4, 5])
  (sSeq (sRet (eSrtSet false (eVar 2)))
  sNil)))
noncomputable def m__law_left : FA := fnR 2 7 false b__law_left
noncomputable def b__law_second (rec : FA) : MS := (sSeq (sIf (tCmp (cIn true) (eVar 1) (eVar 2)) (sSeq (sSet 4 (eLst true aNil))
  (sSeq (sFor (iRng1 (aCons (eCall bLen (aCons (eVar 1) aNil)) aNil)) (gName 5) (sSeq (sSet 6 (eIte (tCmp (cIsN false) (eVar 0) (eC .none)) (eLc false [7] (iRng1 (aCons (eIt (eVar 1) (eVar 5)) aNil)) (gName 7) tTrue (eTup (aCons (eVar 7) aNil))) (eCall m__law_left (aCons (eVar 0) (aCons (eIt (eVar 1) (eVar 5)) aNil)))))
  (sSeq (sExpr (eMeth fExt (eVar 4) (aCons (eLc false [9] (iSeq (eVar 6)) (gName 9) tTrue (eCall bTuple (aCons (eCall (bSorted false) (aCons (eLc false [8] (iSeq (eBin (oAdd false) (eBin (oAdd false) (eSl false (eVar 1) oNone (oSome (eVar 5))) (eVar 9)) (eSl false (eVar 1) (oSome (eBin (oAdd false) (eVar 5) (eC (.int 1)))) oNone))) (gName 8) (tCmp cGt (eVar 8) (eC (.int 0))) (eVar 8)) aNil)) aNil))) aNil)))
  sNil)) [5, 6])
  (sSeq (sPu (eVar 2) (eVar 1) (eIte (tCmp cEq (eVar 4) (eLst false aNil)) (eNot (eVar 3)) (eNot (eCall bAny (aCons (eLc false [10] (iSeq (eSrtSet false (eVar 4))) (gName 10) tTrue (eCall rec (aCons (eVar 0) (aCons (eVar 10) (aCons (eVar 2) (aCons (eVar 3) aNil)))))) aNil)))))
  sNil))) sNil)
  (sSeq (sRet (eIt (eVar 2) (eVar 1)))
  sNil))
noncomputable def m__law_second : Nat → FA
  | 0 => fun _ _ => none
  | n + 1 => fnR 4 11 false (b__law_second (m__law_second n))
/-! ### all positions: who wins -/
section
variable (rst : Nat → List (List Nat)) (losing : Bool)
def opts (hs : List Nat) : List (List Nat) := (List.range hs.length).flatMap fun i => (rst (hs.getD i 0)).map fun r => pl (hs.take i ++ r ++ hs.drop (i + 1))
def secF : Nat → List Nat → Bool
  | 0, _ => false
  | f + 1, hs => if opts rst hs = [] then !losing else !((opts rst hs).any (secF f))
def sec (hs : List Nat) : Bool := secF rst losing (hs.sum + 1) hs
end
section
variable {rst : Nat → List (List Nat)} {losing : Bool}
theorem sum_split {hs : List Nat} {i : Nat} (h : i < hs.length) : hs.sum = (hs.take i).sum + hs.getD i 0 + (hs.drop (i + 1)).sum := by
  have e : hs = hs.take i ++ hs[i] :: hs.drop (i + 1) := by rw [← List.drop_eq_getElem_cons h, List.take_append_drop]
  have := congrArg List.sum e
  rw [this, List.sum_append, List.sum_cons, List.getD_eq_getElem?_getD, List.getElem?_eq_getElem h]
  simp only [Option.getD_some]
  omega
theorem mem_opts {hs o : List Nat} : o ∈ opts rst hs ↔ ∃ i, i < hs.length ∧ ∃ r ∈ rst (hs.getD i 0), o = pl (hs.take i ++ r ++ hs.drop (i + 1)) := by
  unfold opts
  simp only [List.mem_flatMap, List.mem_range, List.mem_map]
  constructor
  · rintro ⟨i, h1, r, h2, rfl⟩; exact ⟨i, h1, r, h2, rfl⟩
  · rintro ⟨i, h1, r, h2, rfl⟩; exact ⟨i, h1, r, h2, rfl⟩
theorem opts_sum {S : Nat} (hr : ∀ n ≤ S, ∀ r ∈ rst n, r.sum < n) {hs o : List Nat} (hS : hs.sum ≤ S) (h : o ∈ opts rst hs) : o.sum < hs.sum := by
  obtain ⟨i, h1, r, h2, rfl⟩ := mem_opts.mp h
  have e := sum_split h1
  have := hr _ (by omega) r h2
  rw [pl_sum, List.sum_append, List.sum_append]
  omega
theorem secF_two {S : Nat} (hr : ∀ n ≤ S, ∀ r ∈ rst n, r.sum < n) : ∀ (f g : Nat) (hs : List Nat), hs.sum < f → hs.sum < g → hs.sum ≤ S → secF rst losing f hs = secF rst losing g hs
  | 0, _, hs, h, _, _ => by omega
  | _ + 1, 0, hs, _, h, _ => by omega
  | f + 1, g + 1, hs, h, h', hS => by
    rw [secF, secF]
    split
    · rfl
    · congr 1
      rw [Bool.eq_iff_iff, List.any_eq_true, List.any_eq_true]
      have e o (ho : o ∈ opts rst hs) : secF rst losing f o = secF rst losing g o := by
        have := opts_sum hr hS ho
        exact secF_two hr f g o (by omega) (by omega) (by omega)
      constructor
      · rintro ⟨o, h1, h2⟩; exact ⟨o, h1, by rwa [← e o h1]⟩
      · rintro ⟨o, h1, h2⟩; exact ⟨o, h1, by rwa [e o h1]⟩
theorem secF_enough {S : Nat} (hr : ∀ n ≤ S, ∀ r ∈ rst n, r.sum < n) (f : Nat) (hs : List Nat) (h : hs.sum < f) (hS : hs.sum ≤ S) : secF rst losing f hs = sec rst losing hs := secF_two hr f _ hs h (by omega) hS
theorem sec_eq {S : Nat} (hr : ∀ n ≤ S, ∀ r ∈ rst n, r.sum < n) {hs : List Nat} (hS : hs.sum ≤ S) : sec rst losing hs = if opts rst hs = [] then !losing else !((opts rst hs).any (sec rst losing)) := by
  rw [show sec rst losing hs = secF rst losing (hs.sum + 1) hs from rfl]
  rw [secF]
  split
  · rfl
  · congr 1
    rw [Bool.eq_iff_iff, List.any_eq_true, List.any_eq_true]
    have h o (ho : o ∈ opts rst hs) : secF rst losing hs.sum o = sec rst losing o := by
      have := opts_sum hr hS ho
      exact secF_enough hr _ _ this (by omega)
    constructor
    · rintro ⟨o, h1, h2⟩; exact ⟨o, h1, by rwa [← h o h1]⟩
    · rintro ⟨o, h1, h2⟩; exact ⟨o, h1, by rwa [h o h1]⟩
end
/-! ### the rows of positions: few -/
/-- rows that ascend from lo, of a sum of n at most -/
def rowsOf : Nat → Nat → Nat → List (List Nat)
  | 0, _, _ => [[]]
  | f + 1, lo, n => [] :: (List.range (n + 1)).flatMap fun a => if lo ≤ a ∧ 0 < a then (rowsOf f a (n - a)).map (a :: ·) else []
theorem rowsOf_mem : ∀ {l : List Nat} {f lo n : Nat}, l.Pairwise (· ≤ ·) → (∀ a ∈ l, lo ≤ a ∧ 0 < a) → l.sum ≤ n → l.length ≤ f → l ∈ rowsOf f lo n
  | [], 0, _, _, _, _, _, _ => by simp [rowsOf]
  | [], f + 1, _, _, _, _, _, _ => by simp [rowsOf]
  | a :: l, f + 1, lo, n, hp, hl, hs, hf => by
    rw [rowsOf, List.mem_cons]
    refine .inr (List.mem_flatMap.mpr ⟨a, ?_, ?_⟩)
    · rw [List.sum_cons] at hs
      rw [List.mem_range]; omega
    · rw [if_pos (hl a List.mem_cons_self)]
      rw [List.pairwise_cons] at hp
      rw [List.sum_cons] at hs
      refine List.mem_map.mpr ⟨l, rowsOf_mem hp.2 (fun b hb => ⟨hp.1 b hb, (hl b (List.mem_cons_of_mem _ hb)).2⟩) (by omega) (by simpa using hf), rfl⟩
theorem sum_len : ∀ {l : List Nat}, (∀ a ∈ l, 0 < a) → l.length ≤ l.sum
  | [], _ => by simp
  | a :: l, h => by
    have := sum_len (l := l) fun b hb => h b (List.mem_cons_of_mem _ hb)
    have := h a List.mem_cons_self
    simp; omega
/-- how many they are -/
def cntOf : Nat → Nat → Nat → Nat
  | 0, _, _ => 1
  | f + 1, lo, n => 1 + ((List.range (n + 1)).map fun a => if lo ≤ a ∧ 0 < a then cntOf f a (n - a) else 0).sum
theorem cntOf_len : ∀ (f lo n : Nat), (rowsOf f lo n).length = cntOf f lo n
  | 0, _, _ => rfl
  | f + 1, lo, n => by
    rw [rowsOf, cntOf, List.length_cons, List.length_flatMap, Nat.add_comm]
    congr 2
    refine List.map_congr_left fun a _ => ?_
    split
    · rw [List.length_map, cntOf_len f]
    · rfl
theorem nodup_le {α : Type} [DecidableEq α] : ∀ {l m : List α}, l.Nodup → (∀ x ∈ l, x ∈ m) → l.length ≤ m.length
  | [], _, _, _ => by simp
  | a :: l, m, hn, hs => by
    rw [List.nodup_cons] at hn
    have h1 := hs a List.mem_cons_self
    have := nodup_le (l := l) (m := m.erase a) hn.2 fun x hx => (List.mem_erase_of_ne (fun e => hn.1 (by rwa [e] at hx))).mpr (hs x (List.mem_cons_of_mem _ hx))
    rw [List.length_erase_of_mem h1] at this
    have := List.length_pos_of_mem h1
    simp; omega
theorem few21 : cntOf 21 0 21 ≤ 5000 := by decide +kernel
end N

namespace N
open PySem L2 PyProof.Rows

theorem nt_inj {a b : List Nat} (h : nt a = nt b) : a = b := by
  have := congrArg (List.map fun x => match x with | PyData.int i => i.toNat | _ => 0) h
  simpa [nt, Function.comp_def] using this
theorem key_nt (l : List Nat) : isKey (.tuple (nt l)) = true := by
  have := key_ints (l.map ci)
  rwa [List.map_map] at this
section
variable (rst : Nat → List (List Nat)) (losing : Bool)
def ent (h : List Nat) : PyData × D := (.tuple (nt h), .d (.bool (sec rst losing h)))
def DK (M : List (List Nat)) : List (PyData × D) := M.map (ent rst losing)
end
structure Gd (S : Nat) (h : List Nat) : Prop where
  so : h.Pairwise (· ≤ ·)
  po : ∀ a ∈ h, 0 < a
  su : h.sum ≤ S
structure MOK (S : Nat) (M : List (List Nat)) : Prop where
  nd : M.Nodup
  gd : ∀ h ∈ M, Gd S h
theorem MOK.few {M : List (List Nat)} (h : MOK 21 M) : M.length ≤ 5000 := by
  have := nodup_le (m := rowsOf 21 0 21) h.nd fun x hx => by
    have g := h.gd x hx
    exact rowsOf_mem g.so (fun a ha => ⟨Nat.zero_le _, g.po a ha⟩) g.su (Nat.le_trans (sum_len g.po) g.su)
  rw [cntOf_len] at this
  exact Nat.le_trans this few21
section
variable {rst : Nat → List (List Nat)} {losing : Bool} {c : D} {S : Nat}
theorem ent_eq {h h' : List Nat} : (ent rst losing h).1 = .tuple (nt h') ↔ h = h' := by
  unfold ent
  simp only [PyData.tuple.injEq]
  exact ⟨nt_inj, fun e => e ▸ rfl⟩
theorem has_DK (M : List (List Nat)) (h : List Nat) : dHas (DK rst losing M) (.tuple (nt h)) = decide (h ∈ M) := by
  rw [Bool.eq_iff_iff, decide_eq_true_eq]
  unfold dHas DK
  simp only [List.any_map, List.any_eq_true, Function.comp, decide_eq_true_eq, ent_eq]
  exact ⟨fun ⟨x, h1, h2⟩ => h2 ▸ h1, fun h1 => ⟨h, h1, rfl⟩⟩
theorem get_DK {M : List (List Nat)} {h : List Nat} (hm : h ∈ M) : dGet (DK rst losing M) (.tuple (nt h)) = some (.d (.bool (sec rst losing h))) := by
  unfold dGet DK
  induction M with
  | nil => cases hm
  | cons x M ih =>
    rw [List.map_cons, List.find?_cons]
    by_cases e : x = h
    · subst e
      have : decide ((ent rst losing x).1 = PyData.tuple (nt x)) = true := decide_eq_true (ent_eq.mpr rfl)
      rw [this]
      rfl
    · have : decide ((ent rst losing x).1 = PyData.tuple (nt h)) = false := decide_eq_false fun h => e (ent_eq.mp h)
      rw [this]
      exact ih (by
        rcases List.mem_cons.mp hm with r | r
        · exact (e r.symm).elim
        · exact r)
theorem put_DK (M : List (List Nat)) (h : List Nat) : dPut (DK rst losing M) (.tuple (nt h)) (.d (.bool (sec rst losing h))) = DK rst losing (if h ∈ M then M else M ++ [h]) := by
  unfold dPut
  rw [has_DK]
  by_cases hm : h ∈ M
  · rw [if_pos hm, decide_eq_true hm, if_pos rfl]
    unfold DK
    rw [List.map_map]
    refine List.map_congr_left fun x hx => ?_
    simp only [Function.comp]
    split
    · rename_i e
      rw [ent_eq.mp e]
      rfl
    · rfl
  · rw [if_neg hm, decide_eq_false hm, if_neg (by simp)]
    unfold DK
    rw [List.map_append]
    rfl
theorem MOK.put {M : List (List Nat)} {h : List Nat} (m : MOK S M) (g : Gd S h) : MOK S (if h ∈ M then M else M ++ [h]) := by
  split
  · exact m
  · rename_i hn
    refine ⟨?_, fun x hx => ?_⟩
    · rw [List.nodup_append]
      exact ⟨m.nd, by simp, fun a ha b hb => by simp at hb; subst hb; exact fun e => hn (e ▸ ha)⟩
    · rcases List.mem_append.mp hx with h' | h'
      · exact m.gd x h'
      · simp at h'; exact h' ▸ g
noncomputable def restE : ME := eIte (tCmp (cIsN false) (eVar 0) (eC .none)) (eLc false [7] (iRng1 (aCons (eIt (eVar 1) (eVar 5)) aNil)) (gName 7) tTrue (eTup (aCons (eVar 7) aNil))) (eCall m__law_left (aCons (eVar 0) (aCons (eIt (eVar 1) (eVar 5)) aNil)))
/-- what may be left of a heap, as it is found -/
structure RO (c : D) (rst : Nat → List (List Nat)) (S : Nat) : Prop where
  sum : ∀ n ≤ S, ∀ r ∈ rst n, r.sum < n
  len : ∀ n ≤ S, ∀ r ∈ rst n, r.length ≤ 2
  ev : ∀ n ≤ S, ∀ (e : Lo) (s : Sto) (Q : D → Sto → Prop), e[0]? = some (some c) → e.length = 11 → (∀ Q : D → Sto → Prop, Q (.d (.int (n : Nat))) s → R (eIt (eVar 1) (eVar 5) e s) Q) →
    (∀ L : List (List Nat), (∀ r, r ∈ L ↔ r ∈ rst n) → L.length ≤ 2 * n → Q (.d (.list (L.map fun r => .tuple (nt r)))) s) → R (restE e s) Q
def rstN (n : Nat) : List (List Nat) := (List.range n).map fun k => [k]
theorem ro_none (hS : S ≤ 1000) : RO (.d .none) rstN S := by
  refine ⟨fun n _ r hr => ?_, fun n _ r hr => ?_, fun n hn e s Q h0 hl hv q => ?_⟩
  · obtain ⟨k, hk, rfl⟩ := List.mem_map.mp hr
    simpa using List.mem_range.mp hk
  · obtain ⟨k, hk, rfl⟩ := List.mem_map.mp hr
    simp
  · unfold restE
    simp only [R_ite, R_tcmp, R_Var, h0, R_C, v_isN, Rc_some, isNone_n]
    refine ⟨fun _ => ?_, fun h => by cases h⟩
    refine R_lcm (List.range n) (fun k => .d (.int ((0 : Int) + (k : Nat)))) (fun k => .tuple (nt [k])) ?_ (fun k hk acc => ?_) (by have := hn; simp [lim]; omega) ?_
    · rw [Ri_rng1, R_cons]
      refine hv _ ?_
      simp [rngD]
      omega
    · simp [wipeN, hl, nt, lim]
    · have := q ((List.range n).map fun k => [k]) (fun r => Iff.rfl) (by simp; omega)
      rw [List.map_map] at this
      exact this
end
end N

namespace N
open PySem L2 PyProof.Rows

section
variable {rst : Nat → List (List Nat)} {losing : Bool} {c : D} {S : Nat}
theorem set_same {s : Sto} {j : Nat} {c : Cell} (h : s[j]? = some c) : s.set j c = s := by
  apply List.ext_getElem?
  intro i
  rw [List.getElem?_set]
  split
  · rename_i e
    subst e
    split
    · exact h.symm
    · rename_i hl
      rw [List.getElem?_eq_none (by omega)]
  · rfl
theorem cut_lo {α : Type} {xs : List α} {i : Nat} (h : i ≤ xs.length) : cutD xs none (some (i : Int)) = xs.take i := by
  unfold cutD
  rw [HT.sIx_none, HT.sIx_nat, Nat.min_eq_left h]
  simp
theorem cut_hi {α : Type} {xs : List α} {i : Nat} (h : i ≤ xs.length) : cutD xs (some (i : Int)) none = xs.drop i := by
  unfold cutD
  rw [HT.sIx_none, HT.sIx_nat, Nat.min_eq_left h]
  exact List.take_of_length_le (by simp)
theorem nt_take (l : List Nat) (i : Nat) : (nt l).take i = nt (l.take i) := by simp [nt]
theorem nt_drop (l : List Nat) (i : Nat) : (nt l).drop i = nt (l.drop i) := by simp [nt]
theorem nt_app (l m : List Nat) : nt l ++ nt m = nt (l ++ m) := by simp [nt]
theorem nt_get {l : List Nat} {i : Nat} (h : i < l.length) : (nt l)[i]? = some (.int (l.getD i 0 : Nat)) := by
  simp [nt, List.getElem?_map, List.getElem?_eq_getElem h, List.getD_eq_getElem?_getD]
theorem getD_le_sum {l : List Nat} {i : Nat} (h : i < l.length) : l.getD i 0 ≤ l.sum := by
  have := sum_split h
  omega
/-- a comprehension whose turns change the store, in its length -/
theorem R_lcJ {α : Type} (l : List α) (enc : α → D) (Iv : Nat → List PyData → Sto → Prop) {vs : List Nat} {mi : MI} {g : MG} {mt : MT} {el : ME} {e : Lo} {s : Sto} {Q : D → Sto → Prop} (hi : Ri (mi e s) fun items ck s1 => items = l.map enc ∧ ck = none ∧ s1 = s) (h0 : Iv 0 [] s)
    (hk : ∀ i acc s', Iv i acc s' → s'.length = s.length ∧ trim s (s' ++ [.gone]) = s') (h : ∀ i x acc s, l[i]? = some x → Iv i acc s → Rc (g (enc x) (wipeN e vs)) fun e1 => R (mt e1 (s ++ [.lst (acc.map .d)])) fun b s1 => (b = false → ∃ s', s1 = s' ++ [.lst (acc.map .d)] ∧ Iv (i + 1) acc s') ∧ (b = true → R (el e1 s1) fun y s2 => ∃ z s', y = .d z ∧ s2 = s' ++ [.lst (acc.map .d)] ∧ Iv (i + 1) (acc ++ [z]) s'))
    (hl : l.length ≤ lim) (q : ∀ acc s, Iv l.length acc s → Q (.d (.list acc)) s) : R (eLc false vs mi g mt el e s) Q := by
  obtain ⟨_, _, s1, h1, rfl, rfl, h2⟩ := hi
  subst h2
  obtain ⟨acc', s', h3, xs, rfl, h4⟩ := lcL_inv (k := s1.length) (g := g) (mt := mt) (el := el) (e0 := wipeN e vs) (enc := enc) (fun i acc s => ∃ xs : List PyData, acc = xs.map .d ∧ Iv i xs s) (fun i acc s ⟨xs, _, hi⟩ => (hk _ _ _ hi).1) l 0 [] s1 (fun i x acc s hx ⟨xs, ea, hi⟩ => by
    subst ea
    rw [Nat.zero_add] at hi ⊢
    obtain ⟨e1, h5, b, s2, h6, h7, h8⟩ := h i x xs s hx hi
    refine ⟨e1, h5, ?_⟩
    cases b with
    | false =>
      obtain ⟨s', rfl, h9⟩ := h7 rfl
      exact .inl ⟨s', h6, xs, rfl, h9⟩
    | true =>
      obtain ⟨y, s3, h9, z, s', rfl, rfl, h10⟩ := h8 rfl
      exact .inr ⟨s2, _, s', h6, h9, xs ++ [z], by simp, h10⟩) (by simpa using hl) ⟨[], rfl, h0⟩
  rw [Nat.zero_add] at h4
  have hk2 := hk _ _ _ h4
  refine R.of (x := .d (.list xs)) (s := s') ?_ (q _ _ h4)
  unfold eLc
  simp only [h1]
  rw [h3]
  unfold lcFin
  simp only []
  rw [List.getElem?_append_right (by omega), show s1.length - s'.length = 0 by omega]
  simp only [List.getElem?_cons_zero, data_map, Bool.false_eq_true, if_false]
  rw [List.set_append_right _ _ (by omega), show s1.length - s'.length = 0 by omega]
  simp only [List.set_cons_zero]
  rw [hk2.2]
/-- a row of a tuple -/
def ut : PyData → List Nat
  | .tuple xs => xs.map fun x => match x with
    | .int i => i.toNat
    | _ => 0
  | _ => []
theorem ut_nt (l : List Nat) : ut (.tuple (nt l)) = l := by simp [ut, nt, Function.comp_def]
theorem alike_nt (a b : List Nat) : PySem.W.alike (.tuple (nt a)) (.tuple (nt b)) = true := by
  have := PySem.W.alike_ints (a.map ci) (b.map ci)
  rw [List.map_map, List.map_map] at this
  rw [PySem.W.alike]
  exact this
theorem setOk_nt {L : List (List Nat)} (h : L.length < 64) : SetOk (L.map fun o => .tuple (nt o)) := by
  refine ⟨fun d hd => ?_, by simpa using h, ⟨PySem.W.AllAlike.of fun a b => alike_nt a b, .inr fun d hd => ?_, fun d hd => ?_⟩⟩
  · obtain ⟨a, _, rfl⟩ := List.mem_map.mp hd
    have := key_nt a
    simp only [isKey, Bool.and_eq_true, decide_eq_true_eq] at this
    exact ⟨this.1.1, this.1.2, this.2⟩
  · obtain ⟨a, _, rfl⟩ := List.mem_map.mp hd
    exact ⟨_, rfl⟩
  · obtain ⟨a, _, rfl⟩ := List.mem_map.mp hd
    have := depth_nt a
    omega
theorem R_srtSet {L : List (List Nat)} {e : Lo} {s : Sto} {Q : D → Sto → Prop} {m : ME} {j : Nat} (hm : m e s = some (.r j, s)) (hj : s[j]? = some (.lst (L.map fun o => .d (.tuple (nt o))))) (hl : L.length < 64)
    (q : ∀ xs : List PyData, (∀ x ∈ xs, ∃ o ∈ L, x = .tuple (nt o)) → (∀ o ∈ L, .tuple (nt o) ∈ xs) → xs.length ≤ L.length → Q (.d (.list xs)) s) : R (eSrtSet false m e s) Q := by
  have hd : data (L.map fun o => D.d (.tuple (nt o))) = some (L.map fun o => .tuple (nt o)) := data_mapf (fun o => PyData.tuple (nt o)) L
  unfold eSrtSet asL
  simp only [hm, hj, hd, if_pos (setOk_nt hl), R_mkF, data_map, Rc_some]
  have pm := Z.srt_perm (Z.dd (L.map fun o => PyData.tuple (nt o)))
  refine q _ (fun x hx => ?_) (fun o ho => ?_) ?_
  · have := Z.dd_mem.mp (pm.mem_iff.mp hx)
    obtain ⟨o, h1, h2⟩ := List.mem_map.mp this
    exact ⟨o, h1, h2.symm⟩
  · exact pm.mem_iff.mpr (Z.dd_mem.mpr (List.mem_map.mpr ⟨o, ho, rfl⟩))
  · rw [pm.length_eq]
    have : ∀ l : List PyData, (Z.dd l).length ≤ l.length := fun l => by
      induction l with
      | nil => exact Nat.le_refl _
      | cons a l ih =>
        unfold Z.dd
        split
        · simp; omega
        · simp; omega
    have h := this (L.map fun o => PyData.tuple (nt o))
    rwa [List.length_map] at h
theorem dic_below (M : List (List Nat)) (n : Nat) : (Cell.dic (DK rst losing M)).below n := fun k j h => by
  obtain ⟨x, _, e⟩ := List.mem_map.mp h
  simp [ent] at e
theorem bools_mapf {α : Type} (f : α → Bool) (l : List α) : bools (l.map (D.d ∘ fun x => PyData.bool (f x))) = some (l.map f) := by
  induction l with
  | nil => rfl
  | cons x l ih => simp only [List.map_cons, Function.comp_apply, bools, ih]
theorem v_any {α : Type} {s : Sto} (f : α → Bool) (l : List α) : bAny s [.d (.list (l.map fun x => PyData.bool (f x)))] = some (.d (.bool (l.any f)), s) := by
  unfold bAny qL f1 asL
  simp only [List.map_map, bools_mapf]
  simp
def plo (hs : List Nat) (i : Nat) (r : List Nat) : List Nat := pl (hs.take i ++ r ++ hs.drop (i + 1))
def NewOf (rst : Nat → List (List Nat)) (hs : List Nat) (i : Nat) (o : List Nat) : Prop := ∃ i', i' < i ∧ ∃ r ∈ rst (hs.getD i' 0), o = plo hs i' r
theorem newOf_succ {hs o : List Nat} {i : Nat} : NewOf rst hs (i + 1) o ↔ NewOf rst hs i o ∨ ∃ r ∈ rst (hs.getD i 0), o = plo hs i r := by
  constructor
  · rintro ⟨i', h1, h2⟩
    rcases Nat.lt_or_ge i' i with h | h
    · exact .inl ⟨i', h, h2⟩
    · exact .inr (by rwa [show i' = i by omega] at h2)
  · rintro (⟨i', h1, h2⟩ | h)
    · exact ⟨i', by omega, h2⟩
    · exact ⟨i, by omega, h⟩
theorem newOf_all {hs o : List Nat} : NewOf rst hs hs.length o ↔ o ∈ opts rst hs := by
  rw [mem_opts]
  rfl
theorem take_sum {hs : List Nat} {i : Nat} (h : i < hs.length) : (hs.take (i + 1)).sum = (hs.take i).sum + hs.getD i 0 := by
  rw [List.take_succ_eq_append_getElem h, List.sum_append, List.getD_eq_getElem?_getD, List.getElem?_eq_getElem h]
  simp
theorem second_ok (ro : RO c rst S) (hS : S ≤ 21) : ∀ (k : Nat) (hs : List Nat) (s : Sto) (M : List (List Nat)) (jk : Nat), hs.sum < k → Gd S hs → s[jk]? = some (.dic (DK rst losing M)) → MOK S M →
    R (m__law_second k s [c, .d (.tuple (nt hs)), .r jk, .d (.bool losing)]) fun d s' => d = .d (.bool (sec rst losing hs)) ∧ ∃ M', MOK S M' ∧ s' = s.set jk (.dic (DK rst losing M'))
  | 0, _, _, _, _, h, _, _, _ => by omega
  | k + 1, hs, s, M, jk, hk, gd, hd, hM => by
    have hj : jk < s.length := by
      rcases Nat.lt_or_ge jk s.length with h | h
      · exact h
      · rw [List.getElem?_eq_none h] at hd; cases hd
    have hlen : hs.length ≤ 21 := by have := sum_len gd.po; have := gd.su; omega
    unfold m__law_second b__law_second
    have hin : cIn true s (.d (.tuple (nt hs))) (.r jk) = some (!decide (hs ∈ M)) := by
      rw [v_inD hd (key_nt hs), has_DK]
      simp
    simp [R_fn, hin, R_it]
    refine ⟨fun hm => ?_, fun hm => ?_⟩
    · have hnx : ∀ {e : Lo} {s : Sto} {Q : D → Sto → Prop} {i : Nat}, i < hs.length → e[1]? = some (some (.d (.tuple (nt hs)))) → e[5]? = some (some (.d (.int (i : Nat)))) → Q (.d (.int (hs.getD i 0 : Nat))) s → R (eIt (eVar 1) (eVar 5) e s) Q := fun {e s Q i} hi h1 h5 q => by
        simp only [R_it, R_Var, h1, h5]
        rw [itF_t (atI_nat (nt_get hi))]
        exact Rc_some.mpr q
      refine Rs_for (List.range hs.length) (fun k => .d (.int ((0 : Int) + (k : Nat)))) (fun i e s' => ∃ L : List (List Nat), s' = s ++ [.lst (L.map fun o => .d (.tuple (nt o)))] ∧ e = [some c, some (.d (.tuple (nt hs))), some (.r jk), some (.d (.bool losing)), some (.r s.length), none, none, none, none, none, none] ∧
        L.length ≤ 2 * (hs.take i).sum ∧ ∀ o, o ∈ L ↔ NewOf rst hs i o) ?_ (fun i x e s' hx hi => ?_) (fun e s' hi => ?_)
      · simp [rngD]
        exact ⟨by omega, fun o ⟨i', h, _⟩ => by omega⟩
      · obtain ⟨L, rfl, rfl, hL, hm2⟩ := hi
        obtain ⟨hi, rfl⟩ : i < hs.length ∧ i = x := by
          obtain ⟨h1, h2⟩ := List.getElem?_eq_some_iff.mp hx
          simp at h1 h2
          exact ⟨h1, h2⟩
        have hle := getD_le_sum hi
        have hsu := gd.su
        rw [g_name, Rc_some, Rs_seq, Rs_set]
        refine ro.ev (hs.getD i 0) (by omega) _ _ _ (by simp) (by simp) (fun Q q => hnx hi (by simp) (by simp) q) fun L' hL' hl' => ?_
        simp
        refine R_lcm L' (fun r => .d (.tuple (nt r))) (fun r => .tuple (nt (plo hs i r))) (by simp) (fun r hr acc => ?_) (by simp [lim]; omega) ?_
        · have hrl := ro.len _ (by omega) r ((hL' r).mp hr)
          simp [wipeN]
          refine pl_row (l := hs.take i ++ r ++ hs.drop (i + 1)) ?_ (by simp [lim]; omega) (by simp) ?_
          · have c1 : cutD (nt hs) none (some (i : Int)) = nt (hs.take i) := by rw [cut_lo (by simp; omega), nt_take]
            have c2 : cutD (nt hs) (some ((i : Int) + 1)) none = nt (hs.drop (i + 1)) := by
              have := cut_hi (xs := nt hs) (i := i + 1) (by simp; omega)
              rw [nt_drop] at this
              exact_mod_cast this
            simp [c1, c2, nt_app, lim]
            refine ⟨by omega, by omega, ?_⟩
            simp [nt]
            rfl
          · simp [plo]
        · have hts := take_sum hi
          have htl : (hs.take (i + 1)).sum ≤ hs.sum := by
            have := congrArg List.sum (List.take_append_drop (i + 1) hs)
            rw [List.sum_append] at this
            omega
          simp
          refine ⟨by simp [lim]; omega, L ++ L'.map (plo hs i), by simp, by simp [wipeN], ?_, fun o => ?_⟩
          · rw [List.length_append, List.length_map]; omega
          · rw [newOf_succ, List.mem_append, hm2]
            refine or_congr Iff.rfl ?_
            rw [List.mem_map]
            constructor
            · rintro ⟨r, h1, rfl⟩; exact ⟨r, (hL' r).mp h1, rfl⟩
            · rintro ⟨r, h1, rfl⟩; exact ⟨r, (hL' r).mpr h1, rfl⟩
      · obtain ⟨L, rfl, rfl, hL, hm2⟩ := hi
        have hL2 : L.length ≤ 42 := by
          rw [List.take_of_length_le (by simp)] at hL
          have := gd.su
          omega
        have hmo : ∀ o, o ∈ L ↔ o ∈ opts rst hs := fun o => by rw [hm2, List.length_range, newOf_all]
        have hse := sec_eq (losing := losing) ro.sum gd.su
        have main : ∀ Q : D → Sto → Prop, (∀ M1, MOK S M1 → Q (.d (.bool (sec rst losing hs))) (s.set jk (.dic (DK rst losing M1)) ++ [.lst (L.map fun o => .d (.tuple (nt o)))])) → R (eIte (tCmp cEq (eVar 4) (eLst false aNil)) (eNot (eVar 3)) (eNot (eCall bAny (aCons (eLc false [10] (iSeq (eSrtSet false (eVar 4))) (gName 10) tTrue (eCall (m__law_second k) (aCons (eVar 0) (aCons (eVar 10) (aCons (eVar 2) (aCons (eVar 3) aNil)))))) aNil))) [some c, some (.d (.tuple (nt hs))), some (.r jk), some (.d (.bool losing)), some (.r s.length), none, none, none, none, none, none] (s ++ [.lst (L.map fun o => .d (.tuple (nt o)))])) Q := fun Q q => by
          have hpd : pd (s ++ [.lst (L.map fun o => D.d (.tuple (nt o)))]) (.r s.length) = some (.list (L.map fun o => .tuple (nt o))) := by
            have := data_mapf (fun o => PyData.tuple (nt o)) L
            simp only [pd, List.getElem?_concat_length]
            rw [show (L.map fun o => D.d (.tuple (nt o))) = L.map (D.d ∘ fun o => PyData.tuple (nt o)) from rfl, this]
          have hpk : pk (.list (L.map fun o => PyData.tuple (nt o))) = true := by
            rw [pk]
            refine pks_iff.mpr fun x hx => ?_
            obtain ⟨o, _, rfl⟩ := List.mem_map.mp hx
            rw [pk]
            exact pks_nt o
          have heq : cEq (s ++ [.lst (L.map fun o => D.d (.tuple (nt o)))]) (.r s.length) (.d (.list [])) = some (decide (L = [])) := by
            rw [v_eqP hpd rfl hpk rfl (by simp [PyData.depth, PyData.depthAll])]
            simp
          have hs0 : s.set jk (.dic (DK rst losing M)) = s := set_same hd
          simp only [R_ite, R_tcmp, R_Var, R_lst, R_nil, R_mkF, data_nil, Rc_some, List.getElem?_cons_succ, List.getElem?_cons_zero, heq, decide_eq_true_eq, decide_eq_false_iff_not]
          refine ⟨by decide, fun hL0 => ?_, fun hL0 => ?_⟩
          · have ho : opts rst hs = [] := by
              rw [List.eq_nil_iff_forall_not_mem]
              intro o ho
              have := (hmo o).mpr ho
              rw [hL0] at this
              cases this
            rw [if_pos ho] at hse
            have := q M hM
            rw [hs0, hse] at this
            simpa using this
          · have ho : opts rst hs ≠ [] := fun h => hL0 (by
              rw [List.eq_nil_iff_forall_not_mem]
              intro o ho
              have := (hmo o).mp ho
              rw [h] at this
              cases this)
            rw [if_neg ho] at hse
            rw [R_eNot, R_call, R_cons]
            have hit : ∀ (Qi : List D → Option (Nat × List D) → Sto → Prop), (∀ xs : List PyData, (∀ x ∈ xs, ∃ o ∈ L, x = .tuple (nt o)) → (∀ o ∈ L, PyData.tuple (nt o) ∈ xs) → xs.length ≤ L.length → Qi (xs.map .d) none (s ++ [.lst (L.map fun o => D.d (.tuple (nt o)))])) → Ri (iSeq (eSrtSet false (eVar 4)) [some c, some (.d (.tuple (nt hs))), some (.r jk), some (.d (.bool losing)), some (.r s.length), none, none, none, none, none, none] (s ++ [.lst (L.map fun o => D.d (.tuple (nt o)))])) Qi := fun Qi qi => by
              rw [Ri_seq]
              refine R_srtSet (j := s.length) (L := L) rfl (by simp) (by omega) fun xs h1 h2 h3 => ?_
              exact qi xs h1 h2 h3
            obtain ⟨_, _, _, hit1, xs, rfl, rfl, rfl, hx1, hx2, hx3⟩ := hit (fun items ck s1 => ∃ xs : List PyData, items = xs.map .d ∧ ck = none ∧ s1 = s ++ [.lst (L.map fun o => D.d (.tuple (nt o)))] ∧ (∀ x ∈ xs, ∃ o ∈ L, x = .tuple (nt o)) ∧ (∀ o ∈ L, PyData.tuple (nt o) ∈ xs) ∧ xs.length ≤ L.length) fun xs h1 h2 h3 => ⟨xs, rfl, rfl, rfl, h1, h2, h3⟩
            refine R_lcJ xs D.d (fun i acc s' => acc = (xs.take i).map (fun x => PyData.bool (sec rst losing (ut x))) ∧ ∃ M1, MOK S M1 ∧ s' = s.set jk (.dic (DK rst losing M1)) ++ [.lst (L.map fun o => D.d (.tuple (nt o)))]) ⟨_, _, _, hit1, rfl, rfl, rfl⟩ ⟨by simp, M, hM, by rw [hs0]⟩ (fun i acc s' hi => ?_) (fun i x acc s' hx hi => ?_) (by have := hx3; simp [lim]; omega) (fun acc s' hi => ?_)
            · obtain ⟨_, M1, hM1, rfl⟩ := hi
              refine ⟨by simp, ?_⟩
              rw [← List.set_append_left _ _ hj]
              have := trim_set (s := s ++ [Cell.lst (L.map fun o => D.d (.tuple (nt o)))]) (g := [.gone]) (j := jk) (c := .dic (DK rst losing M1)) (dic_below _ _)
              rwa [List.set_append_left _ _ (by simp; omega)] at this
            · obtain ⟨rfl, M1, hM1, rfl⟩ := hi
              obtain ⟨o, ho1, rfl⟩ := hx1 x (List.mem_of_getElem? hx)
              have hop := (hmo o).mp ho1
              have hos := opts_sum ro.sum gd.su hop
              obtain ⟨i', hi', r, hr, rfl⟩ := mem_opts.mp hop
              have gdo : Gd S (pl (hs.take i' ++ r ++ hs.drop (i' + 1))) := ⟨so_sorted _, fun a ha => (pl_mem.mp ha).2, by have := gd.su; omega⟩
              have hje : ((s.set jk (.dic (DK rst losing M1)) ++ [Cell.lst (L.map fun o => D.d (.tuple (nt o)))]) ++ [Cell.lst (((xs.take i).map fun x => PyData.bool (sec rst losing (ut x))).map D.d)])[jk]? = some (.dic (DK rst losing M1)) := by
                rw [List.getElem?_append_left (by simp; omega), List.getElem?_append_left (by simpa using hj), List.getElem?_set_self hj]
              have ih := second_ok ro hS k (pl (hs.take i' ++ r ++ hs.drop (i' + 1))) _ M1 jk (by omega) gdo hje hM1
              rw [g_name, Rc_some, R_tTrue]
              refine ⟨fun h => (by cases h), fun _ => ?_⟩
              simp only [wipeN, R_call, R_cons, R_nil, R_Var, List.set_cons_succ, List.set_cons_zero, List.getElem?_cons_succ, List.getElem?_cons_zero]
              refine ih.imp fun d s' ⟨hd1, M2, hM2, hs2⟩ => ⟨_, _, hd1, ?_, ?_, M2, hM2, rfl⟩
              · rw [hs2, List.set_append_left _ _ (by simp; omega), List.set_append_left _ _ (by simpa using hj), List.set_set]
              · rw [List.take_add_one, hx]
                simp [ut_nt]
            · obtain ⟨rfl, M1, hM1, rfl⟩ := hi
              rw [List.take_length]
              simp only [R_nil, v_any, R_some, tru_b, Rc_some]
              have : (xs.any fun x => sec rst losing (ut x)) = (opts rst hs).any (sec rst losing) := by
                rw [Bool.eq_iff_iff, List.any_eq_true, List.any_eq_true]
                constructor
                · rintro ⟨x, h1, h2⟩
                  obtain ⟨o, h3, rfl⟩ := hx1 x h1
                  exact ⟨o, (hmo o).mp h3, by rwa [ut_nt] at h2⟩
                · rintro ⟨o, h1, h2⟩
                  exact ⟨_, hx2 o ((hmo o).mpr h1), by rwa [ut_nt]⟩
              rw [this, ← hse]
              exact q M1 hM1
        rw [thn_nx, Rs_seq, Rs_pu]
        refine main _ fun M1 hM1 => ?_
        have hj1 : (s.set jk (.dic (DK rst losing M1)) ++ [Cell.lst (L.map fun o => D.d (.tuple (nt o)))])[jk]? = some (.dic (DK rst losing M1)) := by
          rw [List.getElem?_append_left (by simpa using hj), List.getElem?_set_self hj]
        have hp := putF_k (d := .d (.bool (sec rst losing hs))) hj1 (key_nt hs) (by have := (show MOK 21 M1 from ⟨hM1.nd, fun h hh => ⟨(hM1.gd h hh).so, (hM1.gd h hh).po, Nat.le_trans (hM1.gd h hh).su hS⟩⟩).few; simp [DK, lim]; omega)
        rw [put_DK] at hp
        have hset : (s.set jk (.dic (DK rst losing M1)) ++ [Cell.lst (L.map fun o => D.d (.tuple (nt o)))]).set jk (.dic (DK rst losing (if hs ∈ M1 then M1 else M1 ++ [hs]))) = s.set jk (.dic (DK rst losing (if hs ∈ M1 then M1 else M1 ++ [hs]))) ++ [Cell.lst (L.map fun o => D.d (.tuple (nt o)))] := by
          rw [List.set_append_left _ _ (by simpa using hj), List.set_set]
        rw [hset] at hp
        have hj2 : (s.set jk (.dic (DK rst losing (if hs ∈ M1 then M1 else M1 ++ [hs]))) ++ [Cell.lst (L.map fun o => D.d (.tuple (nt o)))])[jk]? = some (.dic (DK rst losing (if hs ∈ M1 then M1 else M1 ++ [hs]))) := by
          rw [List.getElem?_append_left (by simpa using hj), List.getElem?_set_self hj]
        have hg := itF_k (d := .d (.bool (sec rst losing hs))) hj2 (key_nt hs) (get_DK (by split <;> simp_all))
        have htr : trim s (s.set jk (.dic (DK rst losing (if hs ∈ M1 then M1 else M1 ++ [hs]))) ++ [Cell.lst (L.map fun o => D.d (.tuple (nt o)))]) = s.set jk (.dic (DK rst losing (if hs ∈ M1 then M1 else M1 ++ [hs]))) := by
          rw [← List.set_append_left _ _ hj]
          exact trim_set (dic_below _ _)
        simp only [R_Var, List.getElem?_cons_succ, List.getElem?_cons_zero, hp, Rc_some, thn_nx, Rs_nil, Rs_seq, Rs_ret, R_it, hg, thn_rt, ret_d, R_some, htr, true_and]
        exact ⟨_, hM1.put gd, rfl⟩
    · have hg : itF s (.r jk) (.d (.tuple (nt hs))) = some (.d (.bool (sec rst losing hs))) := itF_k hd (key_nt hs) (get_DK hm)
      simp [hg]
      exact ⟨M, hM, (set_same hd).symm⟩
end
end N

namespace N
open PySem L2 PyProof.Rows

/-! ### the law of heaps -/
theorem xr_bit_of {T n : Nat} (hT : T ≠ 0) (hb : n.testBit T.log2 = true) : n ^^^ T < n := by
  have h1 : T.testBit T.log2 = true := by
    rw [Nat.testBit_eq_decide_div_mod_eq]
    have := Nat.log2_self_le hT
    have h2 : T < 2 ^ (T.log2 + 1) := Nat.lt_log2_self
    have : T / 2 ^ T.log2 = 1 := by
      rw [Nat.pow_succ] at h2
      exact Nat.div_eq_of_lt_le (by omega) (by omega)
    rw [this]
    rfl
  have hx : (n ^^^ T).testBit T.log2 = false := by rw [Nat.testBit_xor, hb, h1]; rfl
  have m1 := mod_step n T.log2
  have m2 := mod_step (n ^^^ T) T.log2
  rw [hb, if_pos rfl] at m1
  rw [hx, if_neg (by simp)] at m2
  have d : (n ^^^ T) / 2 ^ (T.log2 + 1) = n / 2 ^ (T.log2 + 1) := by
    apply Nat.eq_of_testBit_eq
    intro k
    rw [Nat.testBit_div_two_pow, Nat.testBit_div_two_pow, Nat.testBit_xor]
    have h2 : T < 2 ^ (T.log2 + 1 + k) := Nat.lt_of_lt_of_le Nat.lt_log2_self (Nat.pow_le_pow_right (by decide) (by omega))
    rw [Nat.add_comm k, Nat.testBit_lt_two_pow h2, Bool.xor_false]
  have l := Nat.mod_lt (n ^^^ T) (Nat.two_pow_pos T.log2)
  have e1 := Nat.div_add_mod n (2 ^ (T.log2 + 1))
  have e2 := Nat.div_add_mod (n ^^^ T) (2 ^ (T.log2 + 1))
  rw [d] at e2
  omega
theorem bouton {ns : List Nat} (h : xr ns ≠ 0) : ∃ i, i < ns.length ∧ ns.getD i 0 ^^^ xr ns < ns.getD i 0 := by
  have h1 : (xr ns).testBit (xr ns).log2 = true := by
    rw [Nat.testBit_eq_decide_div_mod_eq]
    have := Nat.log2_self_le h
    have h2 : xr ns < 2 ^ ((xr ns).log2 + 1) := Nat.lt_log2_self
    have : xr ns / 2 ^ (xr ns).log2 = 1 := by
      rw [Nat.pow_succ] at h2
      exact Nat.div_eq_of_lt_le (by omega) (by omega)
    rw [this]
    rfl
  rw [xr_bit, decide_eq_true_eq] at h1
  have : (ns.filter fun n => n.testBit (xr ns).log2) ≠ [] := fun e => by rw [e] at h1; simp at h1
  obtain ⟨n, hn⟩ := List.exists_mem_of_ne_nil _ this
  rw [List.mem_filter] at hn
  obtain ⟨i, hi, rfl⟩ := List.getElem_of_mem hn.1
  refine ⟨i, hi, ?_⟩
  rw [List.getD_eq_getElem?_getD, List.getElem?_eq_getElem hi]
  exact xr_bit_of h hn.2
theorem xor_swap {a b : Nat} : (a ^^^ b = 0) ↔ a = b := by
  constructor
  · intro h
    have := congrArg (· ^^^ b) h
    simpa [Nat.xor_assoc] using this
  · rintro rfl; simp
theorem xr_split (v : Nat → Nat) {hs : List Nat} {i : Nat} (h : i < hs.length) (r : List Nat) : xr ((hs.take i ++ r ++ hs.drop (i + 1)).map v) = xr (hs.map v) ^^^ v (hs.getD i 0) ^^^ xr (r.map v) := by
  have e : hs = hs.take i ++ hs[i] :: hs.drop (i + 1) := by rw [← List.drop_eq_getElem_cons h, List.take_append_drop]
  have e1 : xr (hs.map v) = xr ((hs.take i).map v) ^^^ (v hs[i] ^^^ xr ((hs.drop (i + 1)).map v)) := by
    conv => lhs; rw [e]
    rw [List.map_append, xr_app, List.map_cons, xr]
  rw [e1, List.getD_eq_getElem?_getD, List.getElem?_eq_getElem h]
  simp only [Option.getD_some, List.map_append, xr_app]
  generalize xr ((hs.take i).map v) = a
  generalize xr (r.map v) = b
  generalize xr ((hs.drop (i + 1)).map v) = d
  generalize v hs[i] = x
  rw [show a ^^^ (x ^^^ d) ^^^ x = a ^^^ d by rw [Nat.xor_comm x d, ← Nat.xor_assoc, Nat.xor_assoc, Nat.xor_self, Nat.xor_zero], Nat.xor_assoc, Nat.xor_assoc, Nat.xor_comm b d]
/-- values of heaps: each is the least that no rest has -/
structure SG (rst : Nat → List (List Nat)) (v : Nat → Nat) (S : Nat) : Prop where
  z : v 0 = 0
  ne : ∀ n ≤ S, ∀ r ∈ rst n, xr (r.map v) ≠ v n
  all : ∀ n ≤ S, ∀ k < v n, ∃ r ∈ rst n, xr (r.map v) = k
theorem sg_win {rst : Nat → List (List Nat)} {v : Nat → Nat} {S : Nat} (g : SG rst v S) (hr : ∀ n ≤ S, ∀ r ∈ rst n, r.sum < n) : ∀ (k : Nat) (hs : List Nat), hs.sum < k → hs.sum ≤ S → sec rst false hs = decide (xr (hs.map v) = 0)
  | 0, _, h, _ => by omega
  | k + 1, hs, h, hS => by
    rw [sec_eq hr hS]
    have ih : ∀ o ∈ opts rst hs, sec rst false o = decide (xr (o.map v) = 0) := fun o ho => by
      have := opts_sum hr hS ho
      exact sg_win g hr k o (by omega) (by omega)
    have key : ∀ o ∈ opts rst hs, xr (hs.map v) = 0 → xr (o.map v) ≠ 0 := fun o ho h0 h1 => by
      obtain ⟨i, hi, r, hr', rfl⟩ := mem_opts.mp ho
      rw [pl_xr v g.z, xr_split v hi, h0, Nat.zero_xor] at h1
      have := getD_le_sum hi
      exact g.ne _ (by omega) r hr' (xor_swap.mp h1).symm
    have ex : xr (hs.map v) ≠ 0 → ∃ o ∈ opts rst hs, xr (o.map v) = 0 := fun h0 => by
      obtain ⟨i, hi, hlt⟩ := bouton h0
      rw [List.length_map] at hi
      have e : (hs.map v).getD i 0 = v (hs.getD i 0) := by
        simp [List.getD_eq_getElem?_getD, List.getElem?_eq_getElem hi]
      rw [e] at hlt
      have := getD_le_sum hi
      obtain ⟨r, h1, h2⟩ := g.all (hs.getD i 0) (by omega) _ hlt
      refine ⟨_, mem_opts.mpr ⟨i, hi, r, h1, rfl⟩, ?_⟩
      rw [pl_xr v g.z, xr_split v hi, h2, Nat.xor_comm (v _), Nat.xor_self]
    by_cases h0 : xr (hs.map v) = 0
    · rw [decide_eq_true h0]
      split
      · rfl
      · rw [Bool.not_eq_true', Bool.eq_false_iff]
        intro ha
        obtain ⟨o, h1, h2⟩ := List.any_eq_true.mp ha
        rw [ih o h1] at h2
        exact key o h1 h0 (of_decide_eq_true h2)
    · rw [decide_eq_false h0]
      obtain ⟨o, h1, h2⟩ := ex h0
      rw [if_neg (List.ne_nil_of_mem h1), Bool.not_eq_false']
      exact List.any_eq_true.mpr ⟨o, h1, by rw [ih o h1]; exact decide_eq_true h2⟩
theorem sg_nim (S : Nat) : SG rstN id S := by
  refine ⟨rfl, fun n _ r hr => ?_, fun n _ k hk => ?_⟩
  · obtain ⟨k, hk, rfl⟩ := List.mem_map.mp hr
    have := List.mem_range.mp hk
    simp [xr]
    omega
  · exact ⟨[k], List.mem_map.mpr ⟨k, List.mem_range.mpr hk, rfl⟩, by simp [xr]⟩
theorem rstN_sum (S : Nat) : ∀ n ≤ S, ∀ r ∈ rstN n, r.sum < n := fun n _ r hr => by
  obtain ⟨k, hk, rfl⟩ := List.mem_map.mp hr
  simpa using List.mem_range.mp hk
theorem nim_sec (hs : List Nat) : sec rstN false hs = decide (xr hs = 0) := by
  have := sg_win (sg_nim hs.sum) (rstN_sum hs.sum) (hs.sum + 1) hs (by omega) (Nat.le_refl _)
  simpa using this
end N

namespace N
open PySem L2 PyProof.Rows

noncomputable def b__law_heaps : MS := (sSeq (sRet (eCall bTuple (aCons (eLc false [3] (iRng1 (aCons (eCall m__law_take (aCons (eVar 0) (aCons (eBin (oAdd false) (eVar 1) (eC (.int 1))) aNil))) aNil)) (gName 3) tTrue (eCall m__law_take (aCons (eVar 0) (aCons (eBin (oAdd false) (eVar 2) (eC (.int 1))) aNil)))) aNil)))
  sNil)
noncomputable def m__law_heaps : FA := fnR 3 4 false b__law_heaps
/-! ### the tape with what follows -/
/-- cells that refer to nothing -/
def Flat (g : Sto) : Prop := ∀ c ∈ g, ∀ n, c.below n
theorem flat_nil : Flat [] := fun c h => by cases h
theorem flat_app {g g' : Sto} (h : Flat g) (h' : Flat g') : Flat (g ++ g') := fun c hc => (List.mem_append.mp hc).elim (h c) (h' c)
theorem flat_lst (xs : List PyData) : Flat [.lst (xs.map .d)] := fun c hc n => by
  simp only [List.mem_singleton] at hc
  subst hc
  intro j hj
  simp at hj
theorem TS.len {rest s : Sto} (h : TS rest s) : s.length = 2 + rest.length := by
  obtain ⟨xs, p, q, r, _, rfl⟩ := h
  simp [tp]; omega
theorem TS.wf {rest s : Sto} (h : TS rest s) (f : Flat rest) : Wf s := by
  have hl := h.len
  obtain ⟨xs, p, q, r, _, rfl⟩ := h
  intro c hc
  unfold tp at hc
  rcases List.mem_cons.mp hc with rfl | hc
  · intro j hj; simp at hj
  · rcases List.mem_cons.mp hc with rfl | hc
    · intro j hj
      simp at hj
      omega
    · exact f c hc _
theorem TS.app {rest s : Sto} (h : TS rest s) (g : Sto) : TS (rest ++ g) (s ++ g) := by
  obtain ⟨xs, p, q, r, hp, rfl⟩ := h
  exact ⟨xs, p, q, r, hp, rfl⟩
theorem TS.unapp {rest g s : Sto} (h : TS (rest ++ g) s) : ∃ s', s = s' ++ g ∧ TS rest s' := by
  obtain ⟨xs, p, q, r, hp, rfl⟩ := h
  exact ⟨tp xs p q r rest, rfl, xs, p, q, r, hp, rfl⟩
theorem TS.get {rest s : Sto} (h : TS rest s) (j : Nat) : s[j + 2]? = rest[j]? := by
  obtain ⟨xs, p, q, r, hp, rfl⟩ := h
  rfl
theorem TS.put {rest s : Sto} (h : TS rest s) (j : Nat) (c : Cell) : TS (rest.set j c) (s.set (j + 2) c) := by
  obtain ⟨xs, p, q, r, hp, rfl⟩ := h
  exact ⟨xs, p, q, r, hp, rfl⟩
theorem R_take {rest s : Sto} {m : Nat} {Q : D → Sto → Prop} (h : TS rest s) (h0 : 0 < m) (h1 : m < 2 ^ 256) (q : ∀ (d : Nat) s', d < m → TS rest s' → Q (.d (.int (d : Nat))) s') : R (m__law_take s [.r 1, .d (.int (m : Nat))]) Q := by
  refine (take_ok h (m := (m : Int)) (by omega) (by omega)).imp fun x s' ⟨d, e, h2, h3, h4⟩ => ?_
  subst e
  have := q d.toNat s' (by omega) h4
  rwa [Int.toNat_of_nonneg h2] at this
/-- a row drawn -/
theorem R_drawn {rest s : Sto} {l : List Nat} {enc : Nat → D} {vs : List Nat} {mi : MI} {g : MG} {el : ME} {e : Lo} {Q : D → Sto → Prop} {b : Nat} (h : TS rest s) (f : Flat rest) (hi : Ri (mi e s) fun items ck s1 => items = l.map enc ∧ ck = none ∧ TS rest s1)
    (ht : ∀ x ∈ l, ∀ (r' s' : Sto) (Q' : D → Sto → Prop), (∃ g, Flat g ∧ r' = rest ++ g) → TS r' s' → (∀ (d : Nat) s', d ≤ b → TS r' s' → Q' (.d (.int (d : Nat))) s') → Rc (g (enc x) (wipeN e vs)) fun e1 => R (el e1 s') Q') (hl : l.length ≤ lim)
    (q : ∀ (ns : List Nat) s', ns.length = l.length → (∀ n ∈ ns, n ≤ b) → TS rest s' → Q (.d (.list (nt ns))) s') : R (eLc false vs mi g tTrue el e s) Q := by
  refine R_lcI l enc (2 + rest.length) (fun i acc s' => ∃ ns : List Nat, acc = nt ns ∧ ns.length = i ∧ (∀ n ∈ ns, n ≤ b) ∧ TS rest s') ?_ (fun i acc s' ⟨_, _, _, _, t⟩ => ⟨t.len, t.wf f⟩) (fun i x acc s' hx ⟨ns, e1, e2, hb, t⟩ => ?_) hl (fun acc s' ⟨ns, e1, e2, hb, t⟩ => ?_)
  · obtain ⟨_, _, s1, h1, rfl, rfl, h2⟩ := hi
    exact ⟨_, _, s1, h1, rfl, rfl, [], rfl, rfl, by simp, h2⟩
  · subst e1
    refine (ht x (List.mem_of_getElem? hx) (rest ++ [.lst ((nt ns).map .d)]) _ (fun y s2 => ∃ z s', y = .d z ∧ s2 = s' ++ [.lst ((nt ns).map .d)] ∧ ∃ ns' : List Nat, nt ns ++ [z] = nt ns' ∧ ns'.length = i + 1 ∧ (∀ n ∈ ns', n ≤ b) ∧ TS rest s') ⟨_, flat_lst _, rfl⟩ (t.app _) fun d s2 hd t2 => ?_).imp fun e1 h => R_tTrue.mpr ⟨fun h => (by cases h), fun _ => h⟩
    obtain ⟨s3, rfl, t3⟩ := t2.unapp
    refine ⟨_, s3, rfl, rfl, ns ++ [d], by simp [nt], by simp [e2], fun n hn => ?_, t3⟩
    rcases List.mem_append.mp hn with h | h
    · exact hb n h
    · simp at h; omega
  · subst e1
    exact q ns s' e2 hb t
theorem R_heaps {rest s : Sto} {a b : Nat} (h : TS rest s) (f : Flat rest) (ha : a < 1000) (hb : b < 1000) {Q : D → Sto → Prop} (q : ∀ (ns : List Nat) s', ns.length ≤ a → (∀ n ∈ ns, n ≤ b) → TS rest s' → Q (.d (.tuple (nt ns))) s') : R (m__law_heaps s [.r 1, .d (.int (a : Nat)), .d (.int (b : Nat))]) Q := by
  unfold m__law_heaps b__law_heaps
  obtain ⟨x, s1, e1, d, rfl, hd, t1⟩ := R_take (Q := fun x s' => ∃ d : Nat, x = .d (.int (d : Nat)) ∧ d ≤ a ∧ TS rest s') h (m := a + 1) (by omega) (by omega) fun d s' hd t => ⟨d, rfl, by omega, t⟩
  have e1' : m__law_take s [.r 1, .d (.int ((a : Int) + 1))] = some (.d (.int (d : Nat)), s1) := by exact_mod_cast e1
  simp [R_fn]
  refine R_drawn (b := b) (l := List.range d) (enc := fun k => .d (.int ((0 : Int) + (k : Nat)))) h f ?_ (fun x hx r' s' Q' _ t k => ?_) (by simp [lim]; omega) fun ns s' hl hb t => ?_
  · simp [e1', rngD]
    exact ⟨by omega, t1⟩
  · simp [wipeN]
    have := R_take (Q := Q') t (m := b + 1) (by omega) (by omega) fun d s' hd t => k d s' (by omega) t
    exact_mod_cast this
  · simp [v_tupL]
    have := (TS.wf t f)
    rw [trim_wf' (by rw [t.len, h.len]) this]
    exact q ns s' (by simp at hl; omega) hb t
end N

namespace T23
open PySem L2 PyProof.Rows N
open Z (Dfn)
def topS (i : Nat) : Stmt := PySem.Challenge.pw_cantmove_k23_whole_nim.main.body.getD i (.Pass ⟨0, 0, 0, 0⟩)
structure Nm (mg : Str → Option Value) : Prop where
  n_all : mg "all" = none
  n_any : mg "any" = none
  n_bool : mg "bool" = none
  n_enumerate : mg "enumerate" = none
  n_int : mg "int" = none
  n_isinstance : mg "isinstance" = none
  n_len : mg "len" = none
  n_list : mg "list" = none
  n_max : mg "max" = none
  n_min : mg "min" = none
  n_range : mg "range" = none
  n_set : mg "set" = none
  n_sorted : mg "sorted" = none
  n_str : mg "str" = none
  n_tuple : mg "tuple" = none
structure Gm (mg : Str → Option Value) : Prop where
  triv : True
variable {P : Program} {w : World} {K : PySem.W.Frag} {mg : Str → Option Value} {base : Heap}
abbrev s_without_carry : Stmt := topS 1
theorem sc_without_carry : FnScope ["numbers", "total", "number"] ["numbers"] (defScope s_without_carry) := ⟨rfl, rfl, rfl, by decide +kernel, rfl, by decide +kernel, by decide +kernel⟩
theorem c_without_carry (DD : Dfn K mg "without_carry" s_without_carry ["numbers"]) (n : Nm mg) (g : Gm mg)  : Fn P w K mg base 1 "without_carry" m_without_carry :=
  nfun (k := 0) DD sc_without_carry fun f cdv A outer s H E hr => by
  have hu := hr.units
  have nd := sc_without_carry.nd
  exact (ns_seq (ns_set 1 n_int nd)
  (ns_seq (ns_for (vs := [2]) (ni_seq (n_var 0)) (ng_name 2 nd) (ns_seq (ns_aug io_xor 1 (n_var 2) nd)
  ns_nil) PassesOwn.never)
  (ns_seq (ns_ret (n_var 1))
  ns_nil)))
abbrev s_least_missing : Stmt := topS 2
theorem sc_least_missing : FnScope ["numbers", "known", "number", "k"] ["numbers"] (defScope s_least_missing) := ⟨rfl, rfl, rfl, by decide +kernel, rfl, by decide +kernel, by decide +kernel⟩
theorem c_least_missing (DD : Dfn K mg "least_missing" s_least_missing ["numbers"]) (n : Nm mg) (g : Gm mg)  : Fn P w K mg base 1 "least_missing" m_least_missing :=
  nfun (k := 0) DD sc_least_missing fun f cdv A outer s H E hr => by
  have hu := hr.units
  have nd := sc_least_missing.nd
  exact (ns_seq (ns_setDc 1 (ni_seq (n_var 0)) (fun z => (ng_name 2 nd)) (fun z => nts_nil) (fun z => (n_var 2)) (fun z => n_bl) nd (blkOk_by (own := [("number", 2)]) (by kernel_rfl)))
  (ns_seq (ns_set 3 n_int nd)
  (ns_seq (ns_while (nt_in (.inl ⟨rfl, rfl⟩) hu (n_var 3) (n_var 1)) (ns_seq (ns_aug io_add 3 n_int nd)
  ns_nil) PassesOwn.never)
  (ns_seq (ns_ret (n_var 3))
  ns_nil))))
abbrev s_nim_moves : Stmt := topS 3
theorem sc_nim_moves : FnScope ["heaps", "total", "found", "i", "size"] ["heaps"] (defScope s_nim_moves) := ⟨rfl, rfl, rfl, by decide +kernel, rfl, by decide +kernel, by decide +kernel⟩
theorem c_nim_moves (DD : Dfn K mg "nim_moves" s_nim_moves ["heaps"]) (n : Nm mg) (g : Gm mg) (h_without_carry : Fn P w K mg base 1 "without_carry" m_without_carry) : Fn P w K mg base 2 "nim_moves" m_nim_moves :=
  nfun (k := 1) DD sc_nim_moves fun f cdv A outer s H E hr => by
  have hu := hr.units
  have nd := sc_nim_moves.nd
  exact (ns_seq (ns_set 1 (n_call h_without_carry (n_cons (n_var 0) n_nil) hr) nd)
  (ns_seq (ns_set 2 (n_lst n_nil) nd)
  (ns_seq (ns_for (vs := [3, 4]) (ni_enum (n_cons (n_var 0) n_nil) n.n_enumerate) (ng_tup (ngs_cons (ng_name 3 nd) (ngs_cons (ng_name 4 nd) ngs_nil))) (ns_seq (ns_if (nt_cmp c_lt (n_bin o_xor (n_var 4) (n_var 1)) (n_var 4)) (ns_seq (ns_expr (n_meth f_app (n_var 2) (n_cons (n_tup (n_cons (n_var 3) (n_cons (n_bin o_xor (n_var 4) (n_var 1)) n_nil))) n_nil) PySem.F.slot_list_append PySem.F.type_list_append))
  ns_nil) ns_nil)
  ns_nil) PassesOwn.never)
  (ns_seq (ns_ret (n_callT b_tuple (n_cons (n_var 2) n_nil) n.n_tuple))
  ns_nil))))
abbrev s__law_mix : Stmt := topS 5
theorem sc__law_mix : FnScope ["number"] ["number"] (defScope s__law_mix) := ⟨rfl, rfl, rfl, by decide +kernel, rfl, by decide +kernel, by decide +kernel⟩
theorem c__law_mix (DD : Dfn K mg "_law_mix" s__law_mix ["number"]) (n : Nm mg) (g : Gm mg)  : Fn P w K mg base 1 "_law_mix" m__law_mix :=
  nfun (k := 0) DD sc__law_mix fun f cdv A outer s H E hr => by
  have hu := hr.units
  have nd := sc__law_mix.nd
  exact (ns_seq (ns_set 0 (n_bin o_mod (n_callT b_int (n_cons (n_bin o_add (n_bin o_mul (n_var 0) n_int) n_int) n_nil) n.n_int) n_int) nd)
  (ns_seq (ns_ret (n_bin o_mod (n_callT b_int (n_cons (n_bin o_add (n_bin o_div (n_bin o_mul (n_var 0) (n_var 0)) n_int) (n_bin o_mul (n_var 0) n_int)) n_nil) n.n_int) n_int))
  ns_nil))
abbrev s__law_tape : Stmt := topS 6
theorem sc__law_tape : FnScope ["script"] ["script"] (defScope s__law_tape) := ⟨rfl, rfl, rfl, by decide +kernel, rfl, by decide +kernel, by decide +kernel⟩
theorem c__law_tape (DD : Dfn K mg "_law_tape" s__law_tape ["script"]) (n : Nm mg) (g : Gm mg)  : Fn P w K mg base 1 "_law_tape" m__law_tape :=
  nfun (k := 0) DD sc__law_tape fun f cdv A outer s H E hr => by
  have hu := hr.units
  have nd := sc__law_tape.nd
  exact (ns_seq (ns_ret (n_lst (n_cons (n_callT b_list (n_cons (n_sl (n_var 0) no_none (no_some n_int)) n_nil) n.n_list) (n_cons n_int (n_cons n_int (n_cons (n_bin o_add n_int (n_callB b_len (n_cons (n_var 0) n_nil) n.n_len)) n_nil))))))
  ns_nil)
abbrev s__law_take : Stmt := topS 7
theorem sc__law_take : FnScope ["tape", "many", "cell", "digit"] ["tape", "many"] (defScope s__law_take) := ⟨rfl, rfl, rfl, by decide +kernel, rfl, by decide +kernel, by decide +kernel⟩
theorem c__law_take (DD : Dfn K mg "_law_take" s__law_take ["tape", "many"]) (n : Nm mg) (g : Gm mg) (h__law_mix : Fn P w K mg base 1 "_law_mix" m__law_mix) : Fn P w K mg base 2 "_law_take" m__law_take :=
  nfun (k := 1) DD sc__law_take fun f cdv A outer s H E hr => by
  have hu := hr.units
  have nd := sc__law_take.nd
  exact (ns_seq (ns_if (nt_cmp c_lt (n_it hu (n_var 0) n_int) (n_var 1)) (ns_seq (ns_if (nt_cmp c_lt (n_it hu (n_var 0) n_int) (n_callB b_len (n_cons (n_it hu (n_var 0) n_int) n_nil) n.n_len)) (ns_seq (ns_set 2 (n_it hu (n_it hu (n_var 0) n_int) (n_it hu (n_var 0) n_int)) nd)
  (ns_seq (ns_set 2 (n_ite (nt_cmp c_ge (n_var 2) n_int) (n_bin o_mul n_int (n_var 2)) (n_bin o_sub (n_bin o_mul (n_neg n_int) (n_var 2)) n_int)) nd)
  (ns_seq (ns_pu hu (n_bin o_add (n_it hu (n_var 0) n_int) n_int) (n_var 0) n_int)
  (ns_seq (ns_pu hu (n_call h__law_mix (n_cons (n_bin o_add (n_it hu (n_var 0) n_int) (n_var 2)) n_nil) hr) (n_var 0) n_int)
  (ns_seq (ns_pu hu (n_ite (nt_cmp c_ge (n_var 2) (n_bin o_pow n_int n_int)) (n_var 2) (n_call h__law_mix (n_cons (n_bin o_add (n_call h__law_mix (n_cons (n_var 2) n_nil) hr) (n_it hu (n_var 0) n_int)) n_nil) hr)) (n_var 0) n_int)
  ns_nil))))) (ns_seq (ns_pu hu (n_call h__law_mix (n_cons (n_bin o_add (n_it hu (n_var 0) n_int) n_int) n_nil) hr) (n_var 0) n_int)
  (ns_seq (ns_pu hu (n_it hu (n_var 0) n_int) (n_var 0) n_int)
  ns_nil)))
  ns_nil) ns_nil)
  (ns_seq (ns_set 3 (n_bin o_mod (n_callT b_int (n_cons (n_it hu (n_var 0) n_int) n_nil) n.n_int) (n_var 1)) nd)
  (ns_seq (ns_pu hu (n_bin o_div (n_it hu (n_var 0) n_int) (n_var 1)) (n_var 0) n_int)
  (ns_seq (ns_ret (n_var 3))
  ns_nil))))
abbrev s__law_same : Stmt := topS 8
theorem sc__law_same : FnScope ["a", "b", "k"] ["a", "b"] (defScope s__law_same) := ⟨rfl, rfl, rfl, by decide +kernel, rfl, by decide +kernel, by decide +kernel⟩
theorem cb__law_same (DD : Dfn K mg "_law_same" s__law_same ["a", "b"]) (n : Nm mg) (g : Gm mg)  {k : Nat} {rec : FA} (h__law_same : Fn P w K mg base (1 + k) "_law_same" rec) : Fn P w K mg base (1 + (k + 1)) "_law_same" (fnR 2 3 false (b__law_same rec)) :=
  nfun (k := 1 + k) DD sc__law_same fun f cdv A outer s H E hr => by
  have hu := hr.units
  have nd := sc__law_same.nd
  exact (ns_seq (ns_if (nt_bo (nw_or (nt_bo (nw_and (nt_val (n_isi .tup (n_var 0) n.n_isinstance n.n_tuple)) (nw_and1 (nt_val (n_isi .tup (n_var 1) n.n_isinstance n.n_tuple))))) (nw_or1 (nt_bo (nw_and (nt_val (n_isi .lst (n_var 0) n.n_isinstance n.n_list)) (nw_and1 (nt_val (n_isi .lst (n_var 1) n.n_isinstance n.n_list)))))))) (ns_seq (ns_ret (n_and (n_cmp (c_eq hu) (n_callB b_len (n_cons (n_var 0) n_nil) n.n_len) (n_callB b_len (n_cons (n_var 1) n_nil) n.n_len)) (n_one (n_callB (b_all rfl) (n_cons (n_lc (ni_rng1 (n_cons (n_callB b_len (n_cons (n_var 0) n_nil) n.n_len) n_nil) n.n_range) (fun z => (ng_name 2 nd)) (fun z => nts_nil) (fun z => (n_call h__law_same (n_cons (n_it hu (n_var 0) (n_var 2)) (n_cons (n_it hu (n_var 1) (n_var 2)) n_nil)) hr)) nd (blkOk_by (own := [("k", 2)]) (by kernel_rfl))) n_nil) n.n_all))))
  ns_nil) ns_nil)
  (ns_seq (ns_if (nt_bo (nw_or (nt_val (n_isi .bl (n_var 0) n.n_isinstance n.n_bool)) (nw_or1 (nt_val (n_isi .bl (n_var 1) n.n_isinstance n.n_bool))))) (ns_seq (ns_ret (n_and (n_isi .bl (n_var 0) n.n_isinstance n.n_bool) (n_and (n_isi .bl (n_var 1) n.n_isinstance n.n_bool) (n_one (n_cmp (c_eq hu) (n_var 0) (n_var 1))))))
  ns_nil) ns_nil)
  (ns_seq (ns_if (nt_bo (nw_or (nt_bo (nw_and (nt_val (n_isi .int (n_var 0) n.n_isinstance n.n_int)) (nw_and1 (nt_val (n_isi .int (n_var 1) n.n_isinstance n.n_int))))) (nw_or1 (nt_bo (nw_and (nt_val (n_isi .str (n_var 0) n.n_isinstance n.n_str)) (nw_and1 (nt_val (n_isi .str (n_var 1) n.n_isinstance n.n_str)))))))) (ns_seq (ns_ret (n_cmp (c_eq hu) (n_var 0) (n_var 1)))
  ns_nil) ns_nil)
  (ns_seq (ns_ret (n_and (n_cmp c_is (n_var 0) n_non) (n_one (n_cmp c_is (n_var 1) n_non))))
  ns_nil))))
theorem c__law_same (DD : Dfn K mg "_law_same" s__law_same ["a", "b"]) (n : Nm mg) (g : Gm mg)  : ∀ k : Nat, Fn P w K mg base (1 + k) "_law_same" (m__law_same k)
  | 0 => (nfun_none (k := 0) DD sc__law_same).mono (by omega)
  | k + 1 => cb__law_same DD n g  (c__law_same DD n g  k)
abbrev s__law_left : Stmt := topS 9
theorem sc__law_left : FnScope ["code", "n", "found", "j", "digit", "rest", "a"] ["code", "n"] (defScope s__law_left) := ⟨rfl, rfl, rfl, by decide +kernel, rfl, by decide +kernel, by decide +kernel⟩
theorem c__law_left (DD : Dfn K mg "_law_left" s__law_left ["code", "n"]) (n : Nm mg) (g : Gm mg)  : Fn P w K mg base 1 "_law_left" m__law_left :=
  nfun (k := 0) DD sc__law_left fun f cdv A outer s H E hr => by
  have hu := hr.units
  have nd := sc__law_left.nd
  exact (ns_seq (ns_set 2 (n_lst n_nil) nd)
  (ns_seq (ns_for (vs := [3]) (ni_rng2 (n_cons n_int (n_cons (n_bin o_add (n_callB (b_min2 rfl) (n_cons (n_var 1) (n_cons (n_callB b_len (n_cons (n_var 0) n_nil) n.n_len) n_nil)) n.n_min) n_int) n_nil)) n.n_range) (ng_name 3 nd) (ns_seq (ns_asg (vs := [4, 5]) (n_tup (n_cons (n_it hu (n_var 0) (n_bin o_sub (n_var 3) n_int)) (n_cons (n_bin o_sub (n_var 1) (n_var 3)) n_nil))) (ng_tup (ngs_cons (ng_name 4 nd) (ngs_cons (ng_name 5 nd) ngs_nil))))
  (ns_seq (ns_if (nt_bo (nw_and (nt_in (.inl ⟨rfl, rfl⟩) hu (n_var 4) (n_tup (n_cons n_int (n_cons n_int (n_cons n_int (n_cons n_int n_nil)))))) (nw_and1 (nt_cmp (c_eq hu) (n_var 5) n_int)))) (ns_seq (ns_expr (n_meth f_app (n_var 2) (n_cons (n_tup n_nil) n_nil) PySem.F.slot_list_append PySem.F.type_list_append))
  ns_nil) ns_nil)
  (ns_seq (ns_if (nt_bo (nw_and (nt_in (.inl ⟨rfl, rfl⟩) hu (n_var 4) (n_tup (n_cons n_int (n_cons n_int (n_cons n_int (n_cons n_int n_nil)))))) (nw_and1 (nt_cmp c_gt (n_var 5) n_int)))) (ns_seq (ns_expr (n_meth f_app (n_var 2) (n_cons (n_tup (n_cons (n_var 5) n_nil)) n_nil) PySem.F.slot_list_append PySem.F.type_list_append))
  ns_nil) ns_nil)
  (ns_seq (ns_if (nt_cmp c_gt (n_var 4) n_int) (ns_seq (ns_expr (n_meth f_ext (n_var 2) (n_cons (n_lc (ni_rng2 (n_cons n_int (n_cons (n_var 5) n_nil)) n.n_range) (fun z => (ng_name 6 nd)) (fun z => (nts_one (nt_cmp c_le (n_var 6) (n_bin o_sub (n_var 5) (n_var 6))))) (fun z => (n_tup (n_cons (n_var 6) (n_cons (n_bin o_sub (n_var 5) (n_var 6)) n_nil)))) nd (blkOk_by (own := [("a", 6)]) (by kernel_rfl))) n_nil) PySem.F.slot_list_extend PySem.F.type_list_extend))
  ns_nil) ns_nil)
  ns_nil)))) PassesOwn.never)
  (ns_seq (ns_ret (n_srtSet hu (n_var 2) n.n_sorted n.n_set))
  ns_nil)))
abbrev s__law_missing : Stmt := topS 10
theorem sc__law_missing : FnScope ["numbers", "k"] ["numbers"] (defScope s__law_missing) := ⟨rfl, rfl, rfl, by decide +kernel, rfl, by decide +kernel, by decide +kernel⟩
theorem c__law_missing (DD : Dfn K mg "_law_missing" s__law_missing ["numbers"]) (n : Nm mg) (g : Gm mg)  : Fn P w K mg base 1 "_law_missing" m__law_missing :=
  nfun (k := 0) DD sc__law_missing fun f cdv A outer s H E hr => by
  have hu := hr.units
  have nd := sc__law_missing.nd
  exact (ns_seq (ns_set 1 n_int nd)
  (ns_seq (ns_while (nt_in (.inl ⟨rfl, rfl⟩) hu (n_var 1) (n_var 0)) (ns_seq (ns_set 1 (n_bin o_add (n_var 1) n_int) nd)
  ns_nil) PassesOwn.never)
  (ns_seq (ns_ret (n_var 1))
  ns_nil)))
abbrev s__law_xor : Stmt := topS 11
theorem sc__law_xor : FnScope ["numbers", "total", "figure", "number"] ["numbers"] (defScope s__law_xor) := ⟨rfl, rfl, rfl, by decide +kernel, rfl, by decide +kernel, by decide +kernel⟩
theorem c__law_xor (DD : Dfn K mg "_law_xor" s__law_xor ["numbers"]) (n : Nm mg) (g : Gm mg)  : Fn P w K mg base 1 "_law_xor" m__law_xor :=
  nfun (k := 0) DD sc__law_xor fun f cdv A outer s H E hr => by
  have hu := hr.units
  have nd := sc__law_xor.nd
  exact (ns_seq (ns_asg (vs := [1, 2]) (n_tup (n_cons n_int (n_cons n_int n_nil))) (ng_tup (ngs_cons (ng_name 1 nd) (ngs_cons (ng_name 2 nd) ngs_nil))))
  (ns_seq (ns_while (nt_cmp c_le (n_var 2) (n_callB (b_maxL rfl) (n_cons (n_bin o_add (n_lst (n_cons n_int n_nil)) (n_callT b_list (n_cons (n_var 0) n_nil) n.n_list)) n_nil) n.n_max)) (ns_seq (ns_if (nt_cmp (c_ne hu) (n_bin o_mul (n_bin o_div (n_callB b_len (n_cons (n_lc (ni_seq (n_var 0)) (fun z => (ng_name 3 nd)) (fun z => (nts_one (nt_cmp (c_ne hu) (n_bin o_mul (n_bin o_div (n_bin o_div (n_var 3) (n_var 2)) n_int) n_int) (n_bin o_div (n_var 3) (n_var 2))))) (fun z => n_int) nd (blkOk_by (own := [("number", 3)]) (by kernel_rfl))) n_nil) n.n_len) n_int) n_int) (n_callB b_len (n_cons (n_lc (ni_seq (n_var 0)) (fun z => (ng_name 3 nd)) (fun z => (nts_one (nt_cmp (c_ne hu) (n_bin o_mul (n_bin o_div (n_bin o_div (n_var 3) (n_var 2)) n_int) n_int) (n_bin o_div (n_var 3) (n_var 2))))) (fun z => n_int) nd (blkOk_by (own := [("number", 3)]) (by kernel_rfl))) n_nil) n.n_len)) (ns_seq (ns_set 1 (n_bin o_add (n_var 1) (n_var 2)) nd)
  ns_nil) ns_nil)
  (ns_seq (ns_set 2 (n_bin o_mul (n_var 2) n_int) nd)
  ns_nil)) PassesOwn.never)
  (ns_seq (ns_ret (n_var 1))
  ns_nil)))
abbrev s__law_second : Stmt := topS 12
theorem sc__law_second : FnScope ["code", "heaps", "known", "losing", "after", "i", "rests", "k", "size", "left", "one"] ["code", "heaps", "known", "losing"] (defScope s__law_second) := ⟨rfl, rfl, rfl, by decide +kernel, rfl, by decide +kernel, by decide +kernel⟩
theorem cb__law_second (DD : Dfn K mg "_law_second" s__law_second ["code", "heaps", "known", "losing"]) (n : Nm mg) (g : Gm mg) (h__law_left : Fn P w K mg base 1 "_law_left" m__law_left) {k : Nat} {rec : FA} (h__law_second : Fn P w K mg base (2 + k) "_law_second" rec) : Fn P w K mg base (2 + (k + 1)) "_law_second" (fnR 4 11 false (b__law_second rec)) :=
  nfun (k := 2 + k) DD sc__law_second fun f cdv A outer s H E hr => by
  have hu := hr.units
  have nd := sc__law_second.nd
  exact (ns_seq (ns_if (nt_in (.inr ⟨rfl, rfl⟩) hu (n_var 1) (n_var 2)) (ns_seq (ns_set 4 (n_lst n_nil) nd)
  (ns_seq (ns_for (vs := [5]) (ni_rng1 (n_cons (n_callB b_len (n_cons (n_var 1) n_nil) n.n_len) n_nil) n.n_range) (ng_name 5 nd) (ns_seq (ns_set 6 (n_ite (nt_cmp c_is (n_var 0) n_non) (n_lc (ni_rng1 (n_cons (n_it hu (n_var 1) (n_var 5)) n_nil) n.n_range) (fun z => (ng_name 7 nd)) (fun z => nts_nil) (fun z => (n_tup (n_cons (n_var 7) n_nil))) nd (blkOk_by (own := [("k", 7)]) (by kernel_rfl))) (n_call h__law_left (n_cons (n_var 0) (n_cons (n_it hu (n_var 1) (n_var 5)) n_nil)) hr)) nd)
  (ns_seq (ns_expr (n_meth f_ext (n_var 4) (n_cons (n_lc (ni_seq (n_var 6)) (fun z => (ng_name 9 nd)) (fun z => nts_nil) (fun z => (n_callT b_tuple (n_cons (n_callB (b_sorted hu) (n_cons (n_lc (ni_seq (n_bin o_add (n_bin o_add (n_sl (n_var 1) no_none (no_some (n_var 5))) (n_var 9)) (n_sl (n_var 1) (no_some (n_bin o_add (n_var 5) n_int)) no_none))) (fun z => (ng_name 8 nd)) (fun z => (nts_one (nt_cmp c_gt (n_var 8) n_int))) (fun z => (n_var 8)) nd (blkOk_by (own := [("size", 8)]) (by kernel_rfl))) n_nil) n.n_sorted) n_nil) n.n_tuple)) nd (blkOk_by (own := [("left", 9)]) (by kernel_rfl))) n_nil) PySem.F.slot_list_extend PySem.F.type_list_extend))
  ns_nil)) PassesOwn.never)
  (ns_seq (ns_pu hu (n_ite (nt_cmp (c_eq hu) (n_var 4) (n_lst n_nil)) (n_not (n_var 3)) (n_not (n_callB (b_any rfl) (n_cons (n_lc (ni_seq (n_srtSet hu (n_var 4) n.n_sorted n.n_set)) (fun z => (ng_name 10 nd)) (fun z => nts_nil) (fun z => (n_call h__law_second (n_cons (n_var 0) (n_cons (n_var 10) (n_cons (n_var 2) (n_cons (n_var 3) n_nil)))) hr)) nd (blkOk_by (own := [("one", 10)]) (by kernel_rfl))) n_nil) n.n_any))) (n_var 2) (n_var 1))
  ns_nil))) ns_nil)
  (ns_seq (ns_ret (n_it hu (n_var 2) (n_var 1)))
  ns_nil))
theorem c__law_second (DD : Dfn K mg "_law_second" s__law_second ["code", "heaps", "known", "losing"]) (n : Nm mg) (g : Gm mg) (h__law_left : Fn P w K mg base 1 "_law_left" m__law_left) : ∀ k : Nat, Fn P w K mg base (2 + k) "_law_second" (m__law_second k)
  | 0 => (nfun_none (k := 0) DD sc__law_second).mono (by omega)
  | k + 1 => cb__law_second DD n g h__law_left (c__law_second DD n g h__law_left k)
abbrev s__law_heaps : Stmt := topS 13
theorem sc__law_heaps : FnScope ["tape", "many", "most", "k"] ["tape", "many", "most"] (defScope s__law_heaps) := ⟨rfl, rfl, rfl, by decide +kernel, rfl, by decide +kernel, by decide +kernel⟩
noncomputable def b__law_heaps : MS := (sSeq (sRet (eCall bTuple (aCons (eLc false [3] (iRng1 (aCons (eCall m__law_take (aCons (eVar 0) (aCons (eBin (oAdd false) (eVar 1) (eC (.int 1))) aNil))) aNil)) (gName 3) tTrue (eCall m__law_take (aCons (eVar 0) (aCons (eBin (oAdd false) (eVar 2) (eC (.int 1))) aNil)))) aNil)))
  sNil)
noncomputable def m__law_heaps : FA := fnR 3 4 false b__law_heaps
theorem c__law_heaps (DD : Dfn K mg "_law_heaps" s__law_heaps ["tape", "many", "most"]) (n : Nm mg) (g : Gm mg) (h__law_take : Fn P w K mg base 2 "_law_take" m__law_take) : Fn P w K mg base 3 "_law_heaps" m__law_heaps :=
  nfun (k := 2) DD sc__law_heaps fun f cdv A outer s H E hr => by
  have hu := hr.units
  have nd := sc__law_heaps.nd
  exact (ns_seq (ns_ret (n_callT b_tuple (n_cons (n_lc (ni_rng1 (n_cons (n_call h__law_take (n_cons (n_var 0) (n_cons (n_bin o_add (n_var 1) n_int) n_nil)) hr) n_nil) n.n_range) (fun z => (ng_name 3 nd)) (fun z => nts_nil) (fun z => (n_call h__law_take (n_cons (n_var 0) (n_cons (n_bin o_add (n_var 2) n_int) n_nil)) hr)) nd (blkOk_by (own := [("k", 3)]) (by kernel_rfl))) n_nil) n.n_tuple))
  ns_nil)
abbrev s__law_plain : Stmt := topS 14
theorem sc__law_plain : FnScope ["heaps", "size"] ["heaps"] (defScope s__law_plain) := ⟨rfl, rfl, rfl, by decide +kernel, rfl, by decide +kernel, by decide +kernel⟩
theorem c__law_plain (DD : Dfn K mg "_law_plain" s__law_plain ["heaps"]) (n : Nm mg) (g : Gm mg)  : Fn P w K mg base 1 "_law_plain" m__law_plain :=
  nfun (k := 0) DD sc__law_plain fun f cdv A outer s H E hr => by
  have hu := hr.units
  have nd := sc__law_plain.nd
  exact (ns_seq (ns_ret (n_callT b_tuple (n_cons (n_callB (b_sorted hu) (n_cons (n_lc (ni_seq (n_var 0)) (fun z => (ng_name 1 nd)) (fun z => (nts_one (nt_cmp c_gt (n_var 1) n_int))) (fun z => (n_var 1)) nd (blkOk_by (own := [("size", 1)]) (by kernel_rfl))) n_nil) n.n_sorted) n_nil) n.n_tuple))
  ns_nil)
abbrev s_law : Stmt := topS 15
theorem sc_law : FnScope ["script", "tape", "known", "turn", "heaps", "value", "due", "i", "size", "great", "k", "numbers"] ["script"] (defScope s_law) := ⟨rfl, rfl, rfl, by decide +kernel, rfl, by decide +kernel, by decide +kernel⟩
noncomputable def b_law : MS := (sSeq (sSet 1 (eCall m__law_tape (aCons (eVar 0) aNil)))
  (sSeq (sSet 2 eDic)
  (sSeq (sFor (iRng1 (aCons (eC (.int 3)) aNil)) (gName 3) (sSeq (sSet 4 (eCall m__law_heaps (aCons (eVar 1) (aCons (eC (.int 4)) (aCons (eC (.int 5)) aNil)))))
  (sSeq (sSet 5 (eCall m__law_xor (aCons (eVar 4) aNil)))
  (sSeq (sIf (tOr (tNot (tVal (eCall (m__law_same 6) (aCons (eCall m_without_carry (aCons (eVar 4) aNil)) (aCons (eVar 5) aNil))))) (tCmp cNe (eCmp cEq (eVar 5) (eC (.int 0))) (eCall (m__law_second 30) (aCons (eC .none) (aCons (eCall m__law_plain (aCons (eVar 4) aNil)) (aCons (eVar 2) (aCons (eC (.bool false)) aNil))))))) (sSeq (sRet (eC (.bool false)))
  sNil) sNil)
  (sSeq (sSet 6 (eLst true aNil))
  (sSeq (sFor (iRng1 (aCons (eCall bLen (aCons (eVar 4) aNil)) aNil)) (gName 7) (sSeq (sExpr (eMeth fExt (eVar 6) (aCons (eLc false [8] (iRng1 (aCons (eIt (eVar 4) (eVar 7)) aNil)) (gName 8) (tVal (eCall (m__law_second 30) (aCons (eC .none) (aCons (eCall m__law_plain (aCons (eBin (oAdd false) (eBin (oAdd false) (eSl false (eVar 4) oNone (oSome (eVar 7))) (eTup (aCons (eVar 8) aNil))) (eSl false (eVar 4) (oSome (eBin (oAdd false) (eVar 7) (eC (.int 1)))) oNone)) aNil)) (aCons (eVar 2) (aCons (eC (.bool false)) aNil)))))) (eTup (aCons (eVar 7) (aCons (eVar 8) aNil)))) aNil)))
  sNil) [7])
  (sSeq (sIf (tNot (tVal (eCall (m__law_same 6) (aCons (eCall m_nim_moves (aCons (eVar 4) aNil)) (aCons (eCall bTuple (aCons (eVar 6) aNil)) aNil))))) (sSeq (sRet (eC (.bool false)))
  sNil) sNil)
  (sSeq (sSet 9 (eCall bTuple (aCons (eLc false [10] (iRng1 (aCons (eCall m__law_take (aCons (eVar 1) (aCons (eC (.int 25)) aNil))) aNil)) (gName 10) tTrue (eCall m__law_take (aCons (eVar 1) (aCons (eIt (eLst false (aCons (eC (.int 9)) (aCons (eC (.int 1000)) (aCons (eBin oPow (eC (.int 10)) (eC (.int 30))) aNil)))) (eCall m__law_take (aCons (eVar 1) (aCons (eC (.int 3)) aNil)))) aNil)))) aNil)))
  (sSeq (sIf (tAnd (tCmp cEq (eCall m__law_take (aCons (eVar 1) (aCons (eC (.int 2)) aNil))) (eC (.int 0))) (tCmp cLt (eCall bLen (aCons (eVar 9) aNil)) (eC (.int 24)))) (sSeq (sSet 9 (eBin (oAdd false) (eVar 9) (eTup (aCons (eCall m__law_xor (aCons (eVar 9) aNil)) aNil))))
  sNil) sNil)
  (sSeq (sSet 6 (eLst true aNil))
  (sSeq (sFor (iRng1 (aCons (eCall bLen (aCons (eVar 9) aNil)) aNil)) (gName 7) (sSeq (sSet 8 (eCall m__law_xor (aCons (eBin (oAdd false) (eSl false (eVar 9) oNone (oSome (eVar 7))) (eSl false (eVar 9) (oSome (eBin (oAdd false) (eVar 7) (eC (.int 1)))) oNone)) aNil)))
  (sSeq (sIf (tCmp cLt (eVar 8) (eIt (eVar 9) (eVar 7))) (sSeq (sExpr (eMeth fApp (eVar 6) (aCons (eTup (aCons (eVar 7) (aCons (eVar 8) aNil))) aNil)))
  sNil) sNil)
  sNil)) [7])
  (sSeq (sIf (tOr (tNot (tVal (eCall (m__law_same 6) (aCons (eCall m_without_carry (aCons (eVar 9) aNil)) (aCons (eCall m__law_xor (aCons (eVar 9) aNil)) aNil))))) (tOr (tNot (tVal (eCall (m__law_same 6) (aCons (eCall m_nim_moves (aCons (eVar 9) aNil)) (aCons (eCall bTuple (aCons (eVar 6) aNil)) aNil))))) (tCmp cNe (eCmp cEq (eVar 6) (eLst false aNil)) (eCmp cEq (eCall m__law_xor (aCons (eVar 9) aNil)) (eC (.int 0)))))) (sSeq (sRet (eC (.bool false)))
  sNil) sNil)
  (sSeq (sSet 11 (eCall bTuple (aCons (eLc false [10] (iRng1 (aCons (eCall m__law_take (aCons (eVar 1) (aCons (eC (.int 12)) aNil))) aNil)) (gName 10) tTrue (eCall m__law_take (aCons (eVar 1) (aCons (eIt (eLst false (aCons (eC (.int 4)) (aCons (eC (.int 40)) aNil))) (eCall m__law_take (aCons (eVar 1) (aCons (eC (.int 2)) aNil)))) aNil)))) aNil)))
  (sSeq (sIf (tNot (tVal (eCall (m__law_same 6) (aCons (eCall m_least_missing (aCons (eVar 11) aNil)) (aCons (eCall m__law_missing (aCons (eVar 11) aNil)) aNil))))) (sSeq (sRet (eC (.bool false)))
  sNil) sNil)
  sNil))))))))))))) [3, 4, 5, 6, 7, 9, 11])
  (sSeq (sRet (eC (.bool true)))
  sNil))))
noncomputable def m_law : FA := fnR 1 12 false b_law
theorem c_law {f : Addr} {fd : FuncData} (FF : Fun K "law" "law" s_law f fd) (n : Nm mg) (g : Gm mg) (h__law_heaps : Fn P w K mg base 3 "_law_heaps" m__law_heaps) (h__law_missing : Fn P w K mg base 1 "_law_missing" m__law_missing) (h__law_plain : Fn P w K mg base 1 "_law_plain" m__law_plain) (h__law_same : Fn P w K mg base 7 "_law_same" (m__law_same 6)) (h__law_second : Fn P w K mg base 32 "_law_second" (m__law_second 30)) (h__law_take : Fn P w K mg base 2 "_law_take" m__law_take) (h__law_tape : Fn P w K mg base 1 "_law_tape" m__law_tape) (h__law_xor : Fn P w K mg base 1 "_law_xor" m__law_xor) (h_least_missing : Fn P w K mg base 1 "least_missing" m_least_missing) (h_nim_moves : Fn P w K mg base 2 "nim_moves" m_nim_moves) (h_without_carry : Fn P w K mg base 1 "without_carry" m_without_carry) (run : ∀ ns : List Int, ns.length ≤ 63 → ∃ s', m_law [] [.d (.list (ns.map .int))] = some (.d (.bool true), s')) : FnOk P w K mg base CX0 33 f fd ["script"] (spE K) :=
  law_fn (k := 32) (M := b_law) FF sc_law (fun f cdv A outer s H E hr => by
  have hu := hr.units
  have nd := sc_law.nd
  exact (ns_seq (ns_set 1 (n_call h__law_tape (n_cons (n_var 0) n_nil) hr) nd)
  (ns_seq (ns_set 2 n_dic nd)
  (ns_seq (ns_for (vs := [3]) (ni_rng1 (n_cons n_int n_nil) n.n_range) (ng_name 3 nd) (ns_seq (ns_set 4 (n_call h__law_heaps (n_cons (n_var 1) (n_cons n_int (n_cons n_int n_nil))) hr) nd)
  (ns_seq (ns_set 5 (n_call h__law_xor (n_cons (n_var 4) n_nil) hr) nd)
  (ns_seq (ns_if (nt_bo (nw_or (nt_not (nt_val (n_call h__law_same (n_cons (n_call h_without_carry (n_cons (n_var 4) n_nil) hr) (n_cons (n_var 5) n_nil)) hr))) (nw_or1 (nt_cmp (c_ne hu) (n_cmp (c_eq hu) (n_var 5) n_int) (n_call h__law_second (n_cons n_non (n_cons (n_call h__law_plain (n_cons (n_var 4) n_nil) hr) (n_cons (n_var 2) (n_cons n_bl n_nil)))) hr))))) (ns_seq (ns_ret n_bl)
  ns_nil) ns_nil)
  (ns_seq (ns_set 6 (n_lst n_nil) nd)
  (ns_seq (ns_for (vs := [7]) (ni_rng1 (n_cons (n_callB b_len (n_cons (n_var 4) n_nil) n.n_len) n_nil) n.n_range) (ng_name 7 nd) (ns_seq (ns_expr (n_meth f_ext (n_var 6) (n_cons (n_lc (ni_rng1 (n_cons (n_it hu (n_var 4) (n_var 7)) n_nil) n.n_range) (fun z => (ng_name 8 nd)) (fun z => (nts_one (nt_val (n_call h__law_second (n_cons n_non (n_cons (n_call h__law_plain (n_cons (n_bin o_add (n_bin o_add (n_sl (n_var 4) no_none (no_some (n_var 7))) (n_tup (n_cons (n_var 8) n_nil))) (n_sl (n_var 4) (no_some (n_bin o_add (n_var 7) n_int)) no_none)) n_nil) hr) (n_cons (n_var 2) (n_cons n_bl n_nil)))) hr)))) (fun z => (n_tup (n_cons (n_var 7) (n_cons (n_var 8) n_nil)))) nd (blkOk_by (own := [("size", 8)]) (by kernel_rfl))) n_nil) PySem.F.slot_list_extend PySem.F.type_list_extend))
  ns_nil) PassesOwn.never)
  (ns_seq (ns_if (nt_not (nt_val (n_call h__law_same (n_cons (n_call h_nim_moves (n_cons (n_var 4) n_nil) hr) (n_cons (n_callT b_tuple (n_cons (n_var 6) n_nil) n.n_tuple) n_nil)) hr))) (ns_seq (ns_ret n_bl)
  ns_nil) ns_nil)
  (ns_seq (ns_set 9 (n_callT b_tuple (n_cons (n_lc (ni_rng1 (n_cons (n_call h__law_take (n_cons (n_var 1) (n_cons n_int n_nil)) hr) n_nil) n.n_range) (fun z => (ng_name 10 nd)) (fun z => nts_nil) (fun z => (n_call h__law_take (n_cons (n_var 1) (n_cons (n_it hu (n_lst (n_cons n_int (n_cons n_int (n_cons (n_bin o_pow n_int n_int) n_nil)))) (n_call h__law_take (n_cons (n_var 1) (n_cons n_int n_nil)) hr)) n_nil)) hr)) nd (blkOk_by (own := [("k", 10)]) (by kernel_rfl))) n_nil) n.n_tuple) nd)
  (ns_seq (ns_if (nt_bo (nw_and (nt_cmp (c_eq hu) (n_call h__law_take (n_cons (n_var 1) (n_cons n_int n_nil)) hr) n_int) (nw_and1 (nt_cmp c_lt (n_callB b_len (n_cons (n_var 9) n_nil) n.n_len) n_int)))) (ns_seq (ns_set 9 (n_bin o_add (n_var 9) (n_tup (n_cons (n_call h__law_xor (n_cons (n_var 9) n_nil) hr) n_nil))) nd)
  ns_nil) ns_nil)
  (ns_seq (ns_set 6 (n_lst n_nil) nd)
  (ns_seq (ns_for (vs := [7]) (ni_rng1 (n_cons (n_callB b_len (n_cons (n_var 9) n_nil) n.n_len) n_nil) n.n_range) (ng_name 7 nd) (ns_seq (ns_set 8 (n_call h__law_xor (n_cons (n_bin o_add (n_sl (n_var 9) no_none (no_some (n_var 7))) (n_sl (n_var 9) (no_some (n_bin o_add (n_var 7) n_int)) no_none)) n_nil) hr) nd)
  (ns_seq (ns_if (nt_cmp c_lt (n_var 8) (n_it hu (n_var 9) (n_var 7))) (ns_seq (ns_expr (n_meth f_app (n_var 6) (n_cons (n_tup (n_cons (n_var 7) (n_cons (n_var 8) n_nil))) n_nil) PySem.F.slot_list_append PySem.F.type_list_append))
  ns_nil) ns_nil)
  ns_nil)) PassesOwn.never)
  (ns_seq (ns_if (nt_bo (nw_or (nt_not (nt_val (n_call h__law_same (n_cons (n_call h_without_carry (n_cons (n_var 9) n_nil) hr) (n_cons (n_call h__law_xor (n_cons (n_var 9) n_nil) hr) n_nil)) hr))) (nw_or (nt_not (nt_val (n_call h__law_same (n_cons (n_call h_nim_moves (n_cons (n_var 9) n_nil) hr) (n_cons (n_callT b_tuple (n_cons (n_var 6) n_nil) n.n_tuple) n_nil)) hr))) (nw_or1 (nt_cmp (c_ne hu) (n_cmp (c_eq hu) (n_var 6) (n_lst n_nil)) (n_cmp (c_eq hu) (n_call h__law_xor (n_cons (n_var 9) n_nil) hr) n_int)))))) (ns_seq (ns_ret n_bl)
  ns_nil) ns_nil)
  (ns_seq (ns_set 11 (n_callT b_tuple (n_cons (n_lc (ni_rng1 (n_cons (n_call h__law_take (n_cons (n_var 1) (n_cons n_int n_nil)) hr) n_nil) n.n_range) (fun z => (ng_name 10 nd)) (fun z => nts_nil) (fun z => (n_call h__law_take (n_cons (n_var 1) (n_cons (n_it hu (n_lst (n_cons n_int (n_cons n_int n_nil))) (n_call h__law_take (n_cons (n_var 1) (n_cons n_int n_nil)) hr)) n_nil)) hr)) nd (blkOk_by (own := [("k", 10)]) (by kernel_rfl))) n_nil) n.n_tuple) nd)
  (ns_seq (ns_if (nt_not (nt_val (n_call h__law_same (n_cons (n_call h_least_missing (n_cons (n_var 11) n_nil) hr) (n_cons (n_call h__law_missing (n_cons (n_var 11) n_nil) hr) n_nil)) hr))) (ns_seq (ns_ret n_bl)
  ns_nil) ns_nil)
  ns_nil))))))))))))) PassesOwn.never)
  (ns_seq (ns_ret n_bl)
  ns_nil))))) run
end T23

namespace T23
open PySem L2 PyProof.Rows N

/-- the tape, what is known, what follows -/
def LS (g s : Sto) : Prop := ∃ M, MOK 21 M ∧ Flat g ∧ TS (.dic (DK rstN false M) :: g) s
theorem LS.flat {M : List (List Nat)} {g : Sto} (f : Flat g) : Flat (.dic (DK rstN false M) :: g) := fun c hc n => by
  rcases List.mem_cons.mp hc with rfl | hc
  · exact dic_below _ _
  · exact f c hc n
theorem LS.len {g s : Sto} (h : LS g s) : s.length = 3 + g.length := by
  obtain ⟨M, _, _, t⟩ := h
  have := t.len
  simp at this
  omega
theorem LS.wf {g s : Sto} (h : LS g s) : Wf s := by
  obtain ⟨M, _, f, t⟩ := h
  exact t.wf (LS.flat f)
theorem LS.app {g s : Sto} (h : LS g s) {g' : Sto} (f : Flat g') : LS (g ++ g') (s ++ g') := by
  obtain ⟨M, m, f0, t⟩ := h
  exact ⟨M, m, flat_app f0 f, t.app g'⟩
theorem LS.unapp {g g' s : Sto} (h : LS (g ++ g') s) : ∃ s', s = s' ++ g' ∧ LS g s' := by
  obtain ⟨M, m, f, t⟩ := h
  obtain ⟨s', e, t'⟩ := TS.unapp (rest := .dic (DK rstN false M) :: g) (g := g') t
  exact ⟨s', e, M, m, fun c hc => f c (List.mem_append_left _ hc), t'⟩
theorem LS.get {g s : Sto} (h : LS g s) (j : Nat) : s[j + 3]? = g[j]? := by
  obtain ⟨M, m, f, t⟩ := h
  exact t.get (j + 1)
theorem LS.put {g s : Sto} (h : LS g s) (j : Nat) (xs : List PyData) : LS (g.set j (.lst (xs.map .d))) (s.set (j + 3) (.lst (xs.map .d))) := by
  obtain ⟨M, m, f, t⟩ := h
  refine ⟨M, m, fun c hc => ?_, t.put (j + 1) _⟩
  rcases List.mem_or_eq_of_mem_set hc with h | h
  · exact f c h
  · subst h
    exact flat_lst xs _ (List.mem_singleton.mpr rfl)
theorem sum_le {b : Nat} : ∀ {l : List Nat}, (∀ n ∈ l, n ≤ b) → l.sum ≤ l.length * b
  | [], _ => by simp
  | a :: l, h => by
    have := sum_le (l := l) fun n hn => h n (List.mem_cons_of_mem _ hn)
    have := h a List.mem_cons_self
    rw [List.sum_cons, List.length_cons, Nat.succ_mul]
    omega
theorem R_sec {g s : Sto} {l : List Nat} (h : LS g s) (hl : l.sum ≤ 20) {Q : D → Sto → Prop} (q : ∀ s', LS g s' → Q (.d (.bool (decide (xr l = 0)))) s') : R (m__law_second 30 s [.d .none, .d (.tuple (nt (pl l))), .r 2, .d (.bool false)]) Q := by
  obtain ⟨M, m, f, t⟩ := h
  have e : xr (pl l) = xr l := by simpa using pl_xr id rfl l
  refine (second_ok (rst := rstN) (losing := false) (S := 21) (ro_none (by omega)) (by omega) 30 (pl l) s M 2 (by rw [pl_sum]; omega) ⟨so_sorted _, fun a ha => (pl_mem.mp ha).2, by rw [pl_sum]; omega⟩ (t.get 0) m).imp fun d s' ⟨h1, M', m', h2⟩ => ?_
  subst h1; subst h2
  rw [nim_sec, e]
  exact q _ ⟨M', m', f, t.put 0 _⟩
theorem R_takeL {g s : Sto} {m : Nat} {Q : D → Sto → Prop} (h : LS g s) (h0 : 0 < m) (h1 : m < 2 ^ 256) (q : ∀ (d : Nat) s', d < m → LS g s' → Q (.d (.int (d : Nat))) s') : R (m__law_take s [.r 1, .d (.int (m : Nat))]) Q := by
  obtain ⟨M, mm, f, t⟩ := h
  exact R_take t h0 h1 fun d s' hd t' => q d s' hd ⟨M, mm, f, t'⟩
theorem R_heapsL {g s : Sto} {a b : Nat} (h : LS g s) (ha : a < 1000) (hb : b < 1000) {Q : D → Sto → Prop} (q : ∀ (ns : List Nat) s', ns.length ≤ a → (∀ n ∈ ns, n ≤ b) → LS g s' → Q (.d (.tuple (nt ns))) s') : R (m__law_heaps s [.r 1, .d (.int (a : Nat)), .d (.int (b : Nat))]) Q := by
  obtain ⟨M, mm, f, t⟩ := h
  exact R_heaps t (LS.flat f) ha hb fun ns s' h1 h2 t' => q ns s' h1 h2 ⟨M, mm, f, t'⟩
theorem sok_mvs (T : Nat) {l : List (Nat × Nat)} (h : l.length ≤ 1000) : sok 6 (.tuple (mvs T l)) := by
  have hl := mvs_len T l
  refine ⟨by simp [lim]; omega, fun x hx => ?_⟩
  unfold mvs at hx
  obtain ⟨p, _, rfl⟩ := List.mem_map.mp hx
  refine ⟨by simp [lim], fun y hy => ?_⟩
  simp at hy
  rcases hy with rfl | rfl <;> trivial
theorem cut_lo' {hs : List Nat} {i : Nat} (hi : i < hs.length) : cutD (nt hs) none (some (i : Int)) = nt (hs.take i) := by rw [cut_lo (by simp; omega), nt_take]
theorem cut_hi' {hs : List Nat} {i : Nat} (hi : i < hs.length) : cutD (nt hs) (some ((i : Int) + 1)) none = nt (hs.drop (i + 1)) := by
  have := cut_hi (xs := nt hs) (i := i + 1) (by simp; omega)
  rw [nt_drop] at this
  exact_mod_cast this
theorem nt_mid (a c : List Nat) (b : Nat) : nt a ++ [PyData.int (b : Nat)] ++ nt c = nt (a ++ [b] ++ c) := by simp [nt]
theorem filter_one (a : Nat) : ∀ h : Nat, (List.range h).filter (fun k => decide (k = a)) = if a < h then [a] else []
  | 0 => by simp
  | h + 1 => by
    rw [List.range_succ, List.filter_append, filter_one a h]
    by_cases e : h = a
    · subst e; simp
    · by_cases l : a < h
      · rw [if_pos l, if_pos (by omega)]; simp [e]
      · rw [if_neg l, if_neg (by omega)]; simp [e]
theorem xr_one {hs : List Nat} {i : Nat} (hi : i < hs.length) (k : Nat) : xr (hs.take i ++ [k] ++ hs.drop (i + 1)) = 0 ↔ k = hs.getD i 0 ^^^ xr hs := by
  have := xr_split id hi [k]
  simp only [List.map_id, id] at this
  rw [this, xor_swap, Nat.xor_comm]
  simp only [xr, Nat.xor_zero]
  exact eq_comm
theorem zip_get {hs : List Nat} {i : Nat} (hi : i < hs.length) : hs.zipIdx[i]? = some (hs.getD i 0, i) := by
  rw [List.getElem?_zipIdx, List.getElem?_eq_getElem hi, List.getD_eq_getElem?_getD, List.getElem?_eq_getElem hi]
  simp
theorem zip_take {hs : List Nat} {i : Nat} (hi : i < hs.length) : hs.zipIdx.take (i + 1) = hs.zipIdx.take i ++ [(hs.getD i 0, i)] := by
  rw [List.take_add_one, zip_get hi]
  rfl
theorem mvs_none {gs : List Nat} : mvs (xr gs) gs.zipIdx = [] ↔ xr gs = 0 := by
  constructor
  · intro h
    by_cases h0 : xr gs = 0
    · exact h0
    · obtain ⟨i, hi, hlt⟩ := bouton h0
      have hm : (gs.getD i 0, i) ∈ gs.zipIdx := List.mem_of_getElem? (zip_get hi)
      unfold mvs at h
      rw [List.map_eq_nil_iff, List.filter_eq_nil_iff] at h
      exact (h _ hm (by simpa using hlt)).elim
  · intro h
    unfold mvs
    rw [List.map_eq_nil_iff, List.filter_eq_nil_iff]
    intro p _
    simp [h]
theorem pk_mvs (T : Nat) (l : List (Nat × Nat)) : pks (mvs T l) = true := by
  refine pks_iff.mpr fun x hx => ?_
  unfold mvs at hx
  obtain ⟨p, _, rfl⟩ := List.mem_map.mp hx
  simp [pk, pks]
theorem run {ns : List Int} (hl : ns.length ≤ 63) : ∃ s', m_law [] [.d (.list (ns.map .int))] = some (.d (.bool true), s') := by
  suffices h : R (m_law [] [.d (.list (ns.map .int))]) fun d _ => d = .d (.bool true) by
    obtain ⟨_, s', h, rfl⟩ := h
    exact ⟨s', h⟩
  unfold m_law b_law
  rw [R_fn]
  refine ⟨rfl, ?_⟩
  simp only [Rs_seq, Rs_set, R_call, R_cons, R_nil, R_Var]
  simp only [List.map_cons, List.map_nil, List.cons_append, List.nil_append, List.getElem?_cons_zero]
  refine R_tape fun s0 t0 => ?_
  simp only [thn_nx, Rs_seq, Rs_set, R_dic]
  have t1 : LS [] (s0 ++ [.dic []]) := ⟨[], ⟨List.nodup_nil, fun h hh => by cases hh⟩, flat_nil, t0.app _⟩
  have l0 : s0.length = 2 := t0.len
  generalize s0 ++ [Cell.dic []] = s1 at t1
  rw [l0]
  simp only [List.length_cons, List.length_nil, Nat.reduceSub, Nat.reduceAdd, List.replicate_succ, List.replicate_zero, List.cons_append, List.nil_append, List.set_cons_succ, List.set_cons_zero]
  refine Rs_for (List.range 3) (fun k => .d (.int ((0 : Int) + (k : Nat)))) (fun i e s' => LS [] s' ∧ ∃ o8 : Option PyData, e = [some (.d (.list (ns.map .int))), some (.r 1), some (.r 2), none, none, none, none, none, o8.map D.d, none, none, none]) ?_ (fun i x e s' hx hi => ?_) (fun e s' hi => ?_)
  · simp [rngD, t1]
    exact ⟨none, rfl⟩
  rotate_left
  · obtain ⟨t2, o8, rfl⟩ := hi
    simp
  obtain ⟨t2, o8, rfl⟩ := hi
  clear hx t1 l0 s1 t0 s0
  simp only [N.thn_nx, N.thn_rt, Rs_seq, Rs_set, Rs_ret, Rs_expr, Rs_nil, Rs_if, Rs_asg, Rs_aug, R_call, R_cons, R_nil, R_Var, R_C, R_bin, R_cmp, R_tcmp, R_tOr, R_tAnd, R_tNot, R_tVal, R_tTrue, R_ite, R_eAnd, R_eOr, R_eNot, R_neg, R_tup, R_isi, R_some, Rc_some, N.v_eq, N.v_ne, N.v_lt, N.v_le, N.v_gt, N.v_ge, N.v_add, N.v_sub, N.v_iadd, N.v_xor, N.v_int, N.tru_b, N.pd_d, N.data_nil, N.data_cons, N.len_t, N.v_tupT, N.g_name, N.isNone_n, N.isNone_t, N.isNone_i, N.v_isN, N.v_isNn, N.v_eqB, N.v_neB, List.set_cons_succ, List.set_cons_zero, List.getElem?_cons_succ, List.getElem?_cons_zero, Bool.not_true, Bool.not_false, Bool.false_eq_true, Bool.true_eq_false, eq_self, true_implies, false_implies, true_and, and_true, decide_true, decide_false, Int.zero_add, N.R_sl, N.R_it, R_oNone, R_oSome, wipeN, N.R_lst, N.R_mkF, N.R_mkT, N.R_meth, N.v_addT, Ri_rng1, Ri_rng2, Ri_seq]
  refine R_heapsL (a := 4) (b := 5) t2 (by decide) (by decide) fun hs s2 hl2 hb2 t3 => ?_
  have hs20 : hs.sum ≤ 20 := by have := sum_le hb2; omega
  have hx1 := lxor_ok (ns := hs) (by omega) (fun n hn => Nat.lt_of_le_of_lt (hb2 n hn) (by decide)) 
  have hx2 := carry_ok hs
  have hp1 := plain_ok (l := hs) (by simp [lim]; omega)
  simp only [N.thn_nx, N.thn_rt, Rs_seq, Rs_set, Rs_ret, Rs_expr, Rs_nil, Rs_if, Rs_asg, Rs_aug, R_call, R_cons, R_nil, R_Var, R_C, R_bin, R_cmp, R_tcmp, R_tOr, R_tAnd, R_tNot, R_tVal, R_tTrue, R_ite, R_eAnd, R_eOr, R_eNot, R_neg, R_tup, R_isi, R_some, Rc_some, N.v_eq, N.v_ne, N.v_lt, N.v_le, N.v_gt, N.v_ge, N.v_add, N.v_sub, N.v_iadd, N.v_xor, N.v_int, N.tru_b, N.pd_d, N.data_nil, N.data_cons, N.len_t, N.v_tupT, N.g_name, N.isNone_n, N.isNone_t, N.isNone_i, N.v_isN, N.v_isNn, N.v_eqB, N.v_neB, List.set_cons_succ, List.set_cons_zero, List.getElem?_cons_succ, List.getElem?_cons_zero, Bool.not_true, Bool.not_false, Bool.false_eq_true, Bool.true_eq_false, eq_self, true_implies, false_implies, true_and, and_true, decide_true, decide_false, Int.zero_add, N.R_sl, N.R_it, R_oNone, R_oSome, wipeN, N.R_lst, N.R_mkF, N.R_mkT, N.R_meth, N.v_addT, Ri_rng1, Ri_rng2, Ri_seq, hx1, hx2, hp1]
  refine R_same (sok_int _ _) ?_
  simp only [N.thn_nx, N.thn_rt, Rs_seq, Rs_set, Rs_ret, Rs_expr, Rs_nil, Rs_if, Rs_asg, Rs_aug, R_call, R_cons, R_nil, R_Var, R_C, R_bin, R_cmp, R_tcmp, R_tOr, R_tAnd, R_tNot, R_tVal, R_tTrue, R_ite, R_eAnd, R_eOr, R_eNot, R_neg, R_tup, R_isi, R_some, Rc_some, N.v_eq, N.v_ne, N.v_lt, N.v_le, N.v_gt, N.v_ge, N.v_add, N.v_sub, N.v_iadd, N.v_xor, N.v_int, N.tru_b, N.pd_d, N.data_nil, N.data_cons, N.len_t, N.v_tupT, N.g_name, N.isNone_n, N.isNone_t, N.isNone_i, N.v_isN, N.v_isNn, N.v_eqB, N.v_neB, List.set_cons_succ, List.set_cons_zero, List.getElem?_cons_succ, List.getElem?_cons_zero, Bool.not_true, Bool.not_false, Bool.false_eq_true, Bool.true_eq_false, eq_self, true_implies, false_implies, true_and, and_true, decide_true, decide_false, Int.zero_add, N.R_sl, N.R_it, R_oNone, R_oSome, wipeN, N.R_lst, N.R_mkF, N.R_mkT, N.R_meth, N.v_addT, Ri_rng1, Ri_rng2, Ri_seq]
  refine R_sec t3 hs20 fun s3 t4 => ?_
  have hb0 : decide (((xr hs : Nat) : Int) = 0) = decide (xr hs = 0) := by simp
  simp only [N.thn_nx, N.thn_rt, Rs_seq, Rs_set, Rs_ret, Rs_expr, Rs_nil, Rs_if, Rs_asg, Rs_aug, R_call, R_cons, R_nil, R_Var, R_C, R_bin, R_cmp, R_tcmp, R_tOr, R_tAnd, R_tNot, R_tVal, R_tTrue, R_ite, R_eAnd, R_eOr, R_eNot, R_neg, R_tup, R_isi, R_some, Rc_some, N.v_eq, N.v_ne, N.v_lt, N.v_le, N.v_gt, N.v_ge, N.v_add, N.v_sub, N.v_iadd, N.v_xor, N.v_int, N.tru_b, N.pd_d, N.data_nil, N.data_cons, N.len_t, N.v_tupT, N.g_name, N.isNone_n, N.isNone_t, N.isNone_i, N.v_isN, N.v_isNn, N.v_eqB, N.v_neB, List.set_cons_succ, List.set_cons_zero, List.getElem?_cons_succ, List.getElem?_cons_zero, Bool.not_true, Bool.not_false, Bool.false_eq_true, Bool.true_eq_false, eq_self, true_implies, false_implies, true_and, and_true, decide_true, decide_false, Int.zero_add, N.R_sl, N.R_it, R_oNone, R_oSome, wipeN, N.R_lst, N.R_mkF, N.R_mkT, N.R_meth, N.v_addT, Ri_rng1, Ri_rng2, Ri_seq, hb0]
  refine ⟨by decide, ?_⟩
  have l3 : s3.length = 3 := t4.len
  have t5 : LS [.lst (List.map D.d [])] (s3 ++ [.lst []]) := t4.app (flat_lst [])
  rw [l3]
  generalize s3 ++ [Cell.lst []] = s4 at t5
  have len4 : hs.length ≤ 4 := hl2
  refine Rs_for (List.range hs.length) (fun k => .d (.int ((0 : Int) + (k : Nat)))) (fun i e s' => LS [.lst ((mvs (xr hs) (hs.zipIdx.take i)).map .d)] s' ∧ e = [some (.d (.list (ns.map .int))), some (.r 1), some (.r 2), some (.d (.int ((0 : Int) + (x : Nat)))), some (.d (.tuple (nt hs))), some (.d (.int (xr hs : Nat))), some (.r 3), none, o8.map D.d, none, none, none]) ?_ (fun i y e s' hy hi => ?_) (fun e s' hi => ?_)
  · simp [rngD]
    exact ⟨by omega, by simpa [mvs] using t5⟩
  · obtain ⟨t6, rfl⟩ := hi
    obtain ⟨hi, rfl⟩ : i < hs.length ∧ i = y := by
      obtain ⟨h1, h2⟩ := List.getElem?_eq_some_iff.mp hy
      simp at h1 h2
      exact ⟨h1, h2⟩
    have g6 : s'[3]? = some (.lst ((mvs (xr hs) (hs.zipIdx.take i)).map .d)) := t6.get 0
    simp only [N.thn_nx, N.thn_rt, Rs_seq, Rs_set, Rs_ret, Rs_expr, Rs_nil, Rs_if, Rs_asg, Rs_aug, R_call, R_cons, R_nil, R_Var, R_C, R_bin, R_cmp, R_tcmp, R_tOr, R_tAnd, R_tNot, R_tVal, R_tTrue, R_ite, R_eAnd, R_eOr, R_eNot, R_neg, R_tup, R_isi, R_some, Rc_some, N.v_eq, N.v_ne, N.v_lt, N.v_le, N.v_gt, N.v_ge, N.v_add, N.v_sub, N.v_iadd, N.v_xor, N.v_int, N.tru_b, N.pd_d, N.data_nil, N.data_cons, N.len_t, N.v_tupT, N.g_name, N.isNone_n, N.isNone_t, N.isNone_i, N.v_isN, N.v_isNn, N.v_eqB, N.v_neB, List.set_cons_succ, List.set_cons_zero, List.getElem?_cons_succ, List.getElem?_cons_zero, Bool.not_true, Bool.not_false, Bool.false_eq_true, Bool.true_eq_false, eq_self, true_implies, false_implies, true_and, and_true, decide_true, decide_false, Int.zero_add, N.R_sl, N.R_it, R_oNone, R_oSome, wipeN, N.R_lst, N.R_mkF, N.R_mkT, N.R_meth, N.v_addT, Ri_rng1, Ri_rng2, Ri_seq, R_meth, g6]
    have hh : hs.getD i 0 ≤ 5 := by
      rw [List.getD_eq_getElem?_getD, List.getElem?_eq_getElem hi]
      exact hb2 _ (List.getElem_mem hi)
    have it0 : ∀ s, itF s (.d (.tuple (nt hs))) (.d (.int (i : Nat))) = some (.d (.int (hs.getD i 0 : Nat))) := fun s => itF_t (N.atI_nat (nt_get hi))
    have sp := sum_split hi
    have one := fun k => xr_one hi k
    have zt := zip_take hi
    generalize hs.getD i 0 = h0 at hh it0 sp one zt
    refine R_lcI (List.range h0) (fun k => .d (.int ((0 : Int) + (k : Nat)))) 4 (fun k acc s' => LS [.lst ((mvs (xr hs) (hs.zipIdx.take i)).map .d)] s' ∧ acc = (((List.range h0).take k).filter fun k => decide (k = h0 ^^^ xr hs)).map fun k => .tuple [.int (i : Nat), .int (k : Nat)]) ?_ (fun k acc s' hk => ⟨hk.1.len, hk.1.wf⟩) (fun k z acc s' hz hk => ?_) (by simp [lim]; omega) (fun acc s' hk => ?_)
    · simp [R_it, rngD, it0]
      exact ⟨by omega, t6⟩
    · obtain ⟨t7, rfl⟩ := hk
      have hz0 : z < h0 := by
        obtain ⟨h1, h2⟩ := List.getElem?_eq_some_iff.mp hz
        simp at h1 h2
        omega
      have hz1 : (List.range h0).take (k + 1) = (List.range h0).take k ++ [z] := by rw [List.take_add_one, hz]; rfl
      have hpl := plain_ok (l := hs.take i ++ [z] ++ hs.drop (i + 1)) (by simp [lim]; omega)
      have su : (hs.take i ++ [z] ++ hs.drop (i + 1)).sum ≤ 20 := by simp only [List.sum_append, List.sum_cons, List.sum_nil]; omega
      simp only [N.thn_nx, N.thn_rt, Rs_seq, Rs_set, Rs_ret, Rs_expr, Rs_nil, Rs_if, Rs_asg, Rs_aug, R_call, R_cons, R_nil, R_Var, R_C, R_bin, R_cmp, R_tcmp, R_tOr, R_tAnd, R_tNot, R_tVal, R_tTrue, R_ite, R_eAnd, R_eOr, R_eNot, R_neg, R_tup, R_isi, R_some, Rc_some, N.v_eq, N.v_ne, N.v_lt, N.v_le, N.v_gt, N.v_ge, N.v_add, N.v_sub, N.v_iadd, N.v_xor, N.v_int, N.tru_b, N.pd_d, N.data_nil, N.data_cons, N.len_t, N.v_tupT, N.g_name, N.isNone_n, N.isNone_t, N.isNone_i, N.v_isN, N.v_isNn, N.v_eqB, N.v_neB, List.set_cons_succ, List.set_cons_zero, List.getElem?_cons_succ, List.getElem?_cons_zero, Bool.not_true, Bool.not_false, Bool.false_eq_true, Bool.true_eq_false, eq_self, true_implies, false_implies, true_and, and_true, decide_true, decide_false, Int.zero_add, N.R_sl, N.R_it, R_oNone, R_oSome, wipeN, N.R_lst, N.R_mkF, N.R_mkT, N.R_meth, N.v_addT, Ri_rng1, Ri_rng2, Ri_seq, cut_lo' hi, cut_hi' hi]
      refine ⟨by simp [lim], by simp [lim]; omega, by simp [lim]; omega, ?_⟩
      rw [nt_mid, hpl, R_some]
      refine R_sec (t7.app (flat_lst _)) su fun s4 t8 => ?_
      obtain ⟨s5, rfl, t9⟩ := t8.unapp
      simp only [N.tru_b, Rc_some, decide_eq_false_iff_not, decide_eq_true_eq, one]
      rw [hz1, List.filter_append]
      refine ⟨fun hne => ⟨s5, rfl, t9, ?_⟩, fun he => ?_⟩
      · simp [hne]
      · refine ⟨by simp [lim], _, s5, rfl, rfl, t9, ?_⟩
        simp [he]
    · obtain ⟨t7, rfl⟩ := hk
      have g7 : s'[3]? = some (.lst ((mvs (xr hs) (hs.zipIdx.take i)).map .d)) := t7.get 0
      rw [List.take_length, filter_one]
      simp only [N.thn_nx, N.thn_rt, Rs_seq, Rs_set, Rs_ret, Rs_expr, Rs_nil, Rs_if, Rs_asg, Rs_aug, R_call, R_cons, R_nil, R_Var, R_C, R_bin, R_cmp, R_tcmp, R_tOr, R_tAnd, R_tNot, R_tVal, R_tTrue, R_ite, R_eAnd, R_eOr, R_eNot, R_neg, R_tup, R_isi, R_some, Rc_some, N.v_eq, N.v_ne, N.v_lt, N.v_le, N.v_gt, N.v_ge, N.v_add, N.v_sub, N.v_iadd, N.v_xor, N.v_int, N.tru_b, N.pd_d, N.data_nil, N.data_cons, N.len_t, N.v_tupT, N.g_name, N.isNone_n, N.isNone_t, N.isNone_i, N.v_isN, N.v_isNn, N.v_eqB, N.v_neB, List.set_cons_succ, List.set_cons_zero, List.getElem?_cons_succ, List.getElem?_cons_zero, Bool.not_true, Bool.not_false, Bool.false_eq_true, Bool.true_eq_false, eq_self, true_implies, false_implies, true_and, and_true, decide_true, decide_false, Int.zero_add, N.R_sl, N.R_it, R_oNone, R_oSome, wipeN, N.R_lst, N.R_mkF, N.R_mkT, N.R_meth, N.v_addT, Ri_rng1, Ri_rng2, Ri_seq, g7, v_extL, aft_nx]
      have hml := mvs_len (xr hs) (hs.zipIdx.take i)
      have hzl : (hs.zipIdx.take i).length ≤ hs.length := by rw [List.length_take, List.length_zipIdx]; omega
      refine And.intro ?_ ?_
      · split <;> simp [lim] <;> omega
      · rw [trimE_len (by rw [List.length_set, t6.len, t7.len]), zt, mvs_snoc, ← List.map_append]
        have := t7.put 0 (mvs (xr hs) (hs.zipIdx.take i) ++ ((if h0 ^^^ xr hs < h0 then [h0 ^^^ xr hs] else []).map fun k => .tuple [.int (i : Nat), .int (k : Nat)]))
        simp only [List.set_cons_zero, Nat.zero_add] at this
        refine cast ?_ this
        congr 4
        by_cases hc : h0 ^^^ xr hs < h0 <;> simp [hc]
  · obtain ⟨t6, rfl⟩ := hi
    rw [List.length_range, List.take_of_length_le (by simp)] at t6
    have g6 : s'[3]? = some (.lst ((mvs (xr hs) hs.zipIdx).map .d)) := t6.get 0
    have mo := moves_ok (ns := hs) (by omega)
    rw [N.thn_nx, Rs_seq, Rs_if]
    simp only [Rs_nil, R_call, R_cons, R_nil, R_Var, R_C, R_bin, R_cmp, R_tcmp, R_tOr, R_tAnd, R_tNot, R_tVal, R_tTrue, R_ite, R_eAnd, R_eOr, R_eNot, R_neg, R_tup, R_isi, R_some, Rc_some, N.v_eq, N.v_ne, N.v_lt, N.v_le, N.v_gt, N.v_ge, N.v_add, N.v_sub, N.v_iadd, N.v_xor, N.v_int, N.tru_b, N.pd_d, N.data_nil, N.data_cons, N.len_t, N.v_tupT, N.g_name, N.isNone_n, N.isNone_t, N.isNone_i, N.v_isN, N.v_isNn, N.v_eqB, N.v_neB, List.set_cons_succ, List.set_cons_zero, List.getElem?_cons_succ, List.getElem?_cons_zero, Bool.not_true, Bool.not_false, Bool.false_eq_true, Bool.true_eq_false, eq_self, true_implies, false_implies, true_and, and_true, decide_true, decide_false, Int.zero_add, N.R_sl, N.R_it, R_oNone, R_oSome, wipeN, N.R_lst, N.R_mkF, N.R_mkT, N.R_meth, N.v_addT, Ri_rng1, Ri_rng2, Ri_seq, mo, v_tupR g6]
    refine R_same (sok_mvs _ (by simp; omega)) ?_
    simp only [Rs_nil, R_call, R_cons, R_nil, R_Var, R_C, R_bin, R_cmp, R_tcmp, R_tOr, R_tAnd, R_tNot, R_tVal, R_tTrue, R_ite, R_eAnd, R_eOr, R_eNot, R_neg, R_tup, R_isi, R_some, Rc_some, N.v_eq, N.v_ne, N.v_lt, N.v_le, N.v_gt, N.v_ge, N.v_add, N.v_sub, N.v_iadd, N.v_xor, N.v_int, N.tru_b, N.pd_d, N.data_nil, N.data_cons, N.len_t, N.v_tupT, N.g_name, N.isNone_n, N.isNone_t, N.isNone_i, N.v_isN, N.v_isNn, N.v_eqB, N.v_neB, List.set_cons_succ, List.set_cons_zero, List.getElem?_cons_succ, List.getElem?_cons_zero, Bool.not_true, Bool.not_false, Bool.false_eq_true, Bool.true_eq_false, eq_self, true_implies, false_implies, true_and, and_true, decide_true, decide_false, Int.zero_add, N.R_sl, N.R_it, R_oNone, R_oSome, wipeN, N.R_lst, N.R_mkF, N.R_mkT, N.R_meth, N.v_addT, Ri_rng1, Ri_rng2, Ri_seq]
    rw [N.thn_nx, Rs_seq]
    obtain ⟨M, mm, f, t7⟩ := t6
    obtain ⟨_, s5, e5, d5, rfl, hd5, t8⟩ := R_take (Q := fun x s' => ∃ d : Nat, x = .d (.int (d : Nat)) ∧ d < 25 ∧ TS (.dic (DK rstN false M) :: [.lst ((mvs (xr hs) hs.zipIdx).map .d)]) s') t7 (m := 25) (by omega) (by omega) fun d s' hd t => ⟨d, rfl, hd, t⟩
    have e5' : m__law_take s' [.r 1, .d (.int 25)] = some (.d (.int (d5 : Nat)), s5) := e5
    refine Rs.imp (Q := fun fl e s => fl = .nx ∧ ∃ gs : List Nat, gs.length < 25 ∧ (∀ n ∈ gs, n ≤ 10 ^ 30) ∧ LS [.lst ((mvs (xr hs) hs.zipIdx).map .d)] s ∧ e = [some (.d (.list (ns.map .int))), some (.r 1), some (.r 2), some (.d (.int (x : Nat))), some (.d (.tuple (nt hs))), some (.d (.int (xr hs : Nat))), some (.r 3), none, o8.map D.d, some (.d (.tuple (nt gs))), none, none]) ?_ ?_
    · rw [Rs_set]
      simp only [Rs_nil, R_call, R_cons, R_nil, R_Var, R_C, R_bin, R_cmp, R_tcmp, R_tOr, R_tAnd, R_tNot, R_tVal, R_tTrue, R_ite, R_eAnd, R_eOr, R_eNot, R_neg, R_tup, R_isi, R_some, Rc_some, N.v_eq, N.v_ne, N.v_lt, N.v_le, N.v_gt, N.v_ge, N.v_add, N.v_sub, N.v_iadd, N.v_xor, N.v_int, N.tru_b, N.pd_d, N.data_nil, N.data_cons, N.len_t, N.v_tupT, N.g_name, N.isNone_n, N.isNone_t, N.isNone_i, N.v_isN, N.v_isNn, N.v_eqB, N.v_neB, List.set_cons_succ, List.set_cons_zero, List.getElem?_cons_succ, List.getElem?_cons_zero, Bool.not_true, Bool.not_false, Bool.false_eq_true, Bool.true_eq_false, eq_self, true_implies, false_implies, true_and, and_true, decide_true, decide_false, Int.zero_add, N.R_sl, N.R_it, R_oNone, R_oSome, wipeN, N.R_lst, N.R_mkF, N.R_mkT, N.R_meth, N.v_addT, Ri_rng1, Ri_rng2, Ri_seq]
      refine R_drawn (b := 10 ^ 30) (l := List.range d5) (enc := fun k => .d (.int ((0 : Int) + (k : Nat)))) t7 (LS.flat f) ?_ (fun y hy r' s' Q' hr t k => ?_) (by simp [lim]; omega) fun gs s' hl hb t => ?_
      · simp only [Rs_nil, R_call, R_cons, R_nil, R_Var, R_C, R_bin, R_cmp, R_tcmp, R_tOr, R_tAnd, R_tNot, R_tVal, R_tTrue, R_ite, R_eAnd, R_eOr, R_eNot, R_neg, R_tup, R_isi, R_some, Rc_some, N.v_eq, N.v_ne, N.v_lt, N.v_le, N.v_gt, N.v_ge, N.v_add, N.v_sub, N.v_iadd, N.v_xor, N.v_int, N.tru_b, N.pd_d, N.data_nil, N.data_cons, N.len_t, N.v_tupT, N.g_name, N.isNone_n, N.isNone_t, N.isNone_i, N.v_isN, N.v_isNn, N.v_eqB, N.v_neB, List.set_cons_succ, List.set_cons_zero, List.getElem?_cons_succ, List.getElem?_cons_zero, Bool.not_true, Bool.not_false, Bool.false_eq_true, Bool.true_eq_false, eq_self, true_implies, false_implies, true_and, and_true, decide_true, decide_false, Int.zero_add, N.R_sl, N.R_it, R_oNone, R_oSome, wipeN, N.R_lst, N.R_mkF, N.R_mkT, N.R_meth, N.v_addT, Ri_rng1, Ri_rng2, Ri_seq, e5']
        simp [rngD]
        exact ⟨by omega, t8⟩
      · simp only [Rs_nil, R_call, R_cons, R_nil, R_Var, R_C, R_bin, R_cmp, R_tcmp, R_tOr, R_tAnd, R_tNot, R_tVal, R_tTrue, R_ite, R_eAnd, R_eOr, R_eNot, R_neg, R_tup, R_isi, R_some, Rc_some, N.v_eq, N.v_ne, N.v_lt, N.v_le, N.v_gt, N.v_ge, N.v_add, N.v_sub, N.v_iadd, N.v_xor, N.v_int, N.tru_b, N.pd_d, N.data_nil, N.data_cons, N.len_t, N.v_tupT, N.g_name, N.isNone_n, N.isNone_t, N.isNone_i, N.v_isN, N.v_isNn, N.v_eqB, N.v_neB, List.set_cons_succ, List.set_cons_zero, List.getElem?_cons_succ, List.getElem?_cons_zero, Bool.not_true, Bool.not_false, Bool.false_eq_true, Bool.true_eq_false, eq_self, true_implies, false_implies, true_and, and_true, decide_true, decide_false, Int.zero_add, N.R_sl, N.R_it, R_oNone, R_oSome, wipeN, N.R_lst, N.R_mkF, N.R_mkT, N.R_meth, N.v_addT, Ri_rng1, Ri_rng2, Ri_seq, N.v_pow (i := 10) (j := 30) ⟨by decide, by decide, by decide⟩]
        refine ⟨by simp [lim], R_take (m := 3) t (by omega) (by omega) fun d s7 hd t9 => ?_⟩
        have fin : ∀ m : Nat, 0 < m → m ≤ 10 ^ 30 → itF s7 (.d (.list [.int 9, .int 1000, .int (10 ^ (30 : Int).toNat)])) (.d (.int (d : Nat))) = some (.d (.int (m : Nat))) → Rc (itF s7 (.d (.list [.int 9, .int 1000, .int (10 ^ (30 : Int).toNat)])) (.d (.int (d : Nat)))) fun d => R (m__law_take s7 [.r 1, d]) Q' := fun m h0 h1 h2 => by
          rw [h2, Rc_some]
          exact R_take t9 h0 (Nat.lt_of_le_of_lt h1 (by decide)) fun d' s8 hd' t10 => k d' s8 (by omega) t10
        match d, hd with
        | 0, _ => exact fin 9 (by decide) (by decide) (itF_tl rfl)
        | 1, _ => exact fin 1000 (by decide) (by decide) (itF_tl rfl)
        | 2, _ => exact fin (10 ^ 30) (by decide) (by decide) (itF_tl rfl)
      · simp only [Rs_nil, R_call, R_cons, R_nil, R_Var, R_C, R_bin, R_cmp, R_tcmp, R_tOr, R_tAnd, R_tNot, R_tVal, R_tTrue, R_ite, R_eAnd, R_eOr, R_eNot, R_neg, R_tup, R_isi, R_some, Rc_some, N.v_eq, N.v_ne, N.v_lt, N.v_le, N.v_gt, N.v_ge, N.v_add, N.v_sub, N.v_iadd, N.v_xor, N.v_int, N.tru_b, N.pd_d, N.data_nil, N.data_cons, N.len_t, N.v_tupT, N.g_name, N.isNone_n, N.isNone_t, N.isNone_i, N.v_isN, N.v_isNn, N.v_eqB, N.v_neB, List.set_cons_succ, List.set_cons_zero, List.getElem?_cons_succ, List.getElem?_cons_zero, Bool.not_true, Bool.not_false, Bool.false_eq_true, Bool.true_eq_false, eq_self, true_implies, false_implies, true_and, and_true, decide_true, decide_false, Int.zero_add, N.R_sl, N.R_it, R_oNone, R_oSome, wipeN, N.R_lst, N.R_mkF, N.R_mkT, N.R_meth, N.v_addT, Ri_rng1, Ri_rng2, Ri_seq, v_tupL]
        refine ⟨gs, by simp at hl; omega, hb, ⟨M, mm, f, t⟩, rfl⟩
    · rintro fl e s7 ⟨rfl, gs, hl, hb, t9, rfl⟩
      rw [N.thn_nx, Rs_seq]
      have gb : ∀ n ∈ gs, n < 2 ^ 100 := fun n hn => Nat.lt_of_le_of_lt (hb n hn) (by decide)
      refine Rs.imp (Q := fun fl e s => fl = .nx ∧ ∃ gs : List Nat, gs.length < 26 ∧ (∀ n ∈ gs, n < 2 ^ 100) ∧ LS [.lst ((mvs (xr hs) hs.zipIdx).map .d)] s ∧ e = [some (.d (.list (ns.map .int))), some (.r 1), some (.r 2), some (.d (.int (x : Nat))), some (.d (.tuple (nt hs))), some (.d (.int (xr hs : Nat))), some (.r 3), none, o8.map D.d, some (.d (.tuple (nt gs))), none, none]) ?_ ?_
      · have hxg := lxor_ok (ns := gs) (by omega) (fun n hn => Nat.lt_trans (gb n hn) (by decide))
        rw [Rs_if]
        simp only [Rs_nil, R_call, R_cons, R_nil, R_Var, R_C, R_bin, R_cmp, R_tcmp, R_tOr, R_tAnd, R_tNot, R_tVal, R_tTrue, R_ite, R_eAnd, R_eOr, R_eNot, R_neg, R_tup, R_isi, R_some, Rc_some, N.v_eq, N.v_ne, N.v_lt, N.v_le, N.v_gt, N.v_ge, N.v_add, N.v_sub, N.v_iadd, N.v_xor, N.v_int, N.tru_b, N.pd_d, N.data_nil, N.data_cons, N.len_t, N.v_tupT, N.g_name, N.isNone_n, N.isNone_t, N.isNone_i, N.v_isN, N.v_isNn, N.v_eqB, N.v_neB, List.set_cons_succ, List.set_cons_zero, List.getElem?_cons_succ, List.getElem?_cons_zero, Bool.not_true, Bool.not_false, Bool.false_eq_true, Bool.true_eq_false, eq_self, true_implies, false_implies, true_and, and_true, decide_true, decide_false, Int.zero_add, N.R_sl, N.R_it, R_oNone, R_oSome, wipeN, N.R_lst, N.R_mkF, N.R_mkT, N.R_meth, N.v_addT, Ri_rng1, Ri_rng2, Ri_seq]
        refine R_takeL (m := 2) t9 (by omega) (by omega) fun d s8 hd t10 => ?_
        simp only [N.thn_nx, N.thn_rt, Rs_seq, Rs_set, Rs_ret, Rs_expr, Rs_nil, Rs_if, Rs_asg, Rs_aug, R_call, R_cons, R_nil, R_Var, R_C, R_bin, R_cmp, R_tcmp, R_tOr, R_tAnd, R_tNot, R_tVal, R_tTrue, R_ite, R_eAnd, R_eOr, R_eNot, R_neg, R_tup, R_isi, R_some, Rc_some, N.v_eq, N.v_ne, N.v_lt, N.v_le, N.v_gt, N.v_ge, N.v_add, N.v_sub, N.v_iadd, N.v_xor, N.v_int, N.tru_b, N.pd_d, N.data_nil, N.data_cons, N.len_t, N.v_tupT, N.g_name, N.isNone_n, N.isNone_t, N.isNone_i, N.v_isN, N.v_isNn, N.v_eqB, N.v_neB, List.set_cons_succ, List.set_cons_zero, List.getElem?_cons_succ, List.getElem?_cons_zero, Bool.not_true, Bool.not_false, Bool.false_eq_true, Bool.true_eq_false, eq_self, true_implies, false_implies, true_and, and_true, decide_true, decide_false, Int.zero_add, N.R_sl, N.R_it, R_oNone, R_oSome, wipeN, N.R_lst, N.R_mkF, N.R_mkT, N.R_meth, N.v_addT, Ri_rng1, Ri_rng2, Ri_seq, hxg]
        refine ⟨fun _ => ⟨fun _ => ⟨by simp [lim], by simp [lim]; omega, gs ++ [xr gs], by simp; omega, fun n hn => ?_, t10, by simp [nt]⟩, fun _ => ⟨gs, by omega, gb, t10, rfl⟩⟩, fun _ => ⟨gs, by omega, gb, t10, rfl⟩⟩
        rcases List.mem_append.mp hn with h | h
        · exact gb n h
        · rw [List.mem_singleton.mp h]; exact xr_lt gb
      · clear hb hl gb t9
        rintro fl e s8 ⟨rfl, gs, hl, gb, t9, rfl⟩
        rw [N.thn_nx, Rs_seq, Rs_set]
        simp only [Rs_nil, R_call, R_cons, R_nil, R_Var, R_C, R_bin, R_cmp, R_tcmp, R_tOr, R_tAnd, R_tNot, R_tVal, R_tTrue, R_ite, R_eAnd, R_eOr, R_eNot, R_neg, R_tup, R_isi, R_some, Rc_some, N.v_eq, N.v_ne, N.v_lt, N.v_le, N.v_gt, N.v_ge, N.v_add, N.v_sub, N.v_iadd, N.v_xor, N.v_int, N.tru_b, N.pd_d, N.data_nil, N.data_cons, N.len_t, N.v_tupT, N.g_name, N.isNone_n, N.isNone_t, N.isNone_i, N.v_isN, N.v_isNn, N.v_eqB, N.v_neB, List.set_cons_succ, List.set_cons_zero, List.getElem?_cons_succ, List.getElem?_cons_zero, Bool.not_true, Bool.not_false, Bool.false_eq_true, Bool.true_eq_false, eq_self, true_implies, false_implies, true_and, and_true, decide_true, decide_false, Int.zero_add, N.R_sl, N.R_it, R_oNone, R_oSome, wipeN, N.R_lst, N.R_mkF, N.R_mkT, N.R_meth, N.v_addT, Ri_rng1, Ri_rng2, Ri_seq]
        refine ⟨by simp [lim], ?_⟩
        rw [N.thn_nx, Rs_seq]
        have t11 : LS ([.lst ((mvs (xr hs) hs.zipIdx).map .d)] ++ [.lst (List.map D.d [])]) (s8 ++ [.lst []]) := t9.app (flat_lst [])
        have l8 : s8.length = 4 := t9.len
        rw [l8]
        generalize s8 ++ [Cell.lst []] = s9 at t11
        refine Rs_for (List.range gs.length) (fun k => .d (.int ((0 : Int) + (k : Nat)))) (fun i e s' => LS [.lst ((mvs (xr hs) hs.zipIdx).map .d), .lst ((mvs (xr gs) (gs.zipIdx.take i)).map .d)] s' ∧ ∃ o8 : Option PyData, e = [some (.d (.list (ns.map .int))), some (.r 1), some (.r 2), some (.d (.int (x : Nat))), some (.d (.tuple (nt hs))), some (.d (.int (xr hs : Nat))), some (.r 4), none, o8.map D.d, some (.d (.tuple (nt gs))), none, none]) ?_ (fun i y e s' hy hi => ?_) (fun e s' hi => ?_)
        · simp [rngD]
          exact ⟨by omega, by simpa [mvs] using t11, o8, rfl⟩
        · obtain ⟨t12, o8, rfl⟩ := hi
          obtain ⟨hi, rfl⟩ : i < gs.length ∧ i = y := by
            obtain ⟨h1, h2⟩ := List.getElem?_eq_some_iff.mp hy
            simp at h1 h2
            exact ⟨h1, h2⟩
          have g12 : s'[4]? = some (.lst ((mvs (xr gs) (gs.zipIdx.take i)).map .d)) := t12.get 1
          have it0 : ∀ s, itF s (.d (.tuple (nt gs))) (.d (.int (i : Nat))) = some (.d (.int (gs.getD i 0 : Nat))) := fun s => itF_t (N.atI_nat (nt_get hi))
          have zt := zip_take hi
          have xs1 := xr_split id hi []
          simp only [List.map_id, id, xr, Nat.xor_zero, List.append_nil, List.map_nil] at xs1
          rw [Nat.xor_comm] at xs1
          generalize gs.getD i 0 = h0 at it0 zt xs1
          have lx := lxor_ok (ns := gs.take i ++ gs.drop (i + 1)) (by simp; omega) (fun n hn => by
            rcases List.mem_append.mp hn with h | h
            · exact Nat.lt_trans (gb n (List.mem_of_mem_take h)) (by decide)
            · exact Nat.lt_trans (gb n (List.mem_of_mem_drop h)) (by decide))
          rw [xs1] at lx
          simp only [N.thn_nx, N.thn_rt, Rs_seq, Rs_set, Rs_ret, Rs_expr, Rs_nil, Rs_if, Rs_asg, Rs_aug, R_call, R_cons, R_nil, R_Var, R_C, R_bin, R_cmp, R_tcmp, R_tOr, R_tAnd, R_tNot, R_tVal, R_tTrue, R_ite, R_eAnd, R_eOr, R_eNot, R_neg, R_tup, R_isi, R_some, Rc_some, N.v_eq, N.v_ne, N.v_lt, N.v_le, N.v_gt, N.v_ge, N.v_add, N.v_sub, N.v_iadd, N.v_xor, N.v_int, N.tru_b, N.pd_d, N.data_nil, N.data_cons, N.len_t, N.v_tupT, N.g_name, N.isNone_n, N.isNone_t, N.isNone_i, N.v_isN, N.v_isNn, N.v_eqB, N.v_neB, List.set_cons_succ, List.set_cons_zero, List.getElem?_cons_succ, List.getElem?_cons_zero, Bool.not_true, Bool.not_false, Bool.false_eq_true, Bool.true_eq_false, eq_self, true_implies, false_implies, true_and, and_true, decide_true, decide_false, Int.zero_add, N.R_sl, N.R_it, R_oNone, R_oSome, wipeN, N.R_lst, N.R_mkF, N.R_mkT, N.R_meth, N.v_addT, Ri_rng1, Ri_rng2, Ri_seq, cut_lo' hi, cut_hi' hi, nt_app, lx, it0, g12, v_app, aft_nx]
          have hml := mvs_len (xr gs) (gs.zipIdx.take i)
          have hzl : (gs.zipIdx.take i).length ≤ gs.length := by rw [List.length_take, List.length_zipIdx]; omega
          refine ⟨by simp [lim]; omega, fun hlt => ⟨by simp [lim], by simp [lim]; omega, ?_, some _, rfl⟩, fun hge => ⟨?_, some _, rfl⟩⟩
          · have hlt : h0 ^^^ xr gs < h0 := by have := of_decide_eq_true hlt; omega
            have := t12.put 1 (mvs (xr gs) (gs.zipIdx.take i) ++ [.tuple [.int (i : Nat), .int ((h0 ^^^ xr gs : Nat) : Nat)]])
            simp only [List.set_cons_succ, List.set_cons_zero, List.map_append, List.map_cons, List.map_nil] at this
            rw [trimE_len (by simp), zt, mvs_snoc, if_pos hlt]
            simpa using this
          · have hge : ¬ h0 ^^^ xr gs < h0 := by have := of_decide_eq_false hge; omega
            rw [trimE_len rfl, zt, mvs_snoc, if_neg hge, List.append_nil]
            exact t12
        · clear t11 t9 o8
          obtain ⟨t12, o8, rfl⟩ := hi
          rw [List.length_range, List.take_of_length_le (by simp)] at t12
          have mo := moves_ok (ns := gs) (by omega)
          have hc := carry_ok gs
          have hx := lxor_ok (ns := gs) (by omega) (fun n hn => Nat.lt_trans (gb n hn) (by decide))
          have g13 : s'[4]? = some (.lst ((mvs (xr gs) gs.zipIdx).map .d)) := t12.get 1
          have heq : cEq s' (.r 4) (.d (.list [])) = some (decide (xr gs = 0)) := by
            rw [v_eqP (x := .list (mvs (xr gs) gs.zipIdx)) (y := .list []) (by simp [pd, g13, data_map]) rfl (by rw [pk]; exact pk_mvs _ _) rfl (by simp [PyData.depth, PyData.depthAll])]
            simp [mvs_none]
          have hb0 : decide (((xr gs : Nat) : Int) = 0) = decide (xr gs = 0) := by simp
          rw [N.thn_nx, Rs_seq, Rs_if]
          simp only [Rs_nil, R_call, R_cons, R_nil, R_Var, R_C, R_bin, R_cmp, R_tcmp, R_tOr, R_tAnd, R_tNot, R_tVal, R_tTrue, R_ite, R_eAnd, R_eOr, R_eNot, R_neg, R_tup, R_isi, R_some, Rc_some, N.v_eq, N.v_ne, N.v_lt, N.v_le, N.v_gt, N.v_ge, N.v_add, N.v_sub, N.v_iadd, N.v_xor, N.v_int, N.tru_b, N.pd_d, N.data_nil, N.data_cons, N.len_t, N.v_tupT, N.g_name, N.isNone_n, N.isNone_t, N.isNone_i, N.v_isN, N.v_isNn, N.v_eqB, N.v_neB, List.set_cons_succ, List.set_cons_zero, List.getElem?_cons_succ, List.getElem?_cons_zero, Bool.not_true, Bool.not_false, Bool.false_eq_true, Bool.true_eq_false, eq_self, true_implies, false_implies, true_and, and_true, decide_true, decide_false, Int.zero_add, N.R_sl, N.R_it, R_oNone, R_oSome, wipeN, N.R_lst, N.R_mkF, N.R_mkT, N.R_meth, N.v_addT, Ri_rng1, Ri_rng2, Ri_seq, hc, hx]
          refine R_same (sok_int _ _) ?_
          simp only [Rs_nil, R_call, R_cons, R_nil, R_Var, R_C, R_bin, R_cmp, R_tcmp, R_tOr, R_tAnd, R_tNot, R_tVal, R_tTrue, R_ite, R_eAnd, R_eOr, R_eNot, R_neg, R_tup, R_isi, R_some, Rc_some, N.v_eq, N.v_ne, N.v_lt, N.v_le, N.v_gt, N.v_ge, N.v_add, N.v_sub, N.v_iadd, N.v_xor, N.v_int, N.tru_b, N.pd_d, N.data_nil, N.data_cons, N.len_t, N.v_tupT, N.g_name, N.isNone_n, N.isNone_t, N.isNone_i, N.v_isN, N.v_isNn, N.v_eqB, N.v_neB, List.set_cons_succ, List.set_cons_zero, List.getElem?_cons_succ, List.getElem?_cons_zero, Bool.not_true, Bool.not_false, Bool.false_eq_true, Bool.true_eq_false, eq_self, true_implies, false_implies, true_and, and_true, decide_true, decide_false, Int.zero_add, N.R_sl, N.R_it, R_oNone, R_oSome, wipeN, N.R_lst, N.R_mkF, N.R_mkT, N.R_meth, N.v_addT, Ri_rng1, Ri_rng2, Ri_seq, mo, v_tupR g13]
          refine R_same (sok_mvs _ (by simp; omega)) ?_
          simp only [Rs_nil, R_call, R_cons, R_nil, R_Var, R_C, R_bin, R_cmp, R_tcmp, R_tOr, R_tAnd, R_tNot, R_tVal, R_tTrue, R_ite, R_eAnd, R_eOr, R_eNot, R_neg, R_tup, R_isi, R_some, Rc_some, N.v_eq, N.v_ne, N.v_lt, N.v_le, N.v_gt, N.v_ge, N.v_add, N.v_sub, N.v_iadd, N.v_xor, N.v_int, N.tru_b, N.pd_d, N.data_nil, N.data_cons, N.len_t, N.v_tupT, N.g_name, N.isNone_n, N.isNone_t, N.isNone_i, N.v_isN, N.v_isNn, N.v_eqB, N.v_neB, List.set_cons_succ, List.set_cons_zero, List.getElem?_cons_succ, List.getElem?_cons_zero, Bool.not_true, Bool.not_false, Bool.false_eq_true, Bool.true_eq_false, eq_self, true_implies, false_implies, true_and, and_true, decide_true, decide_false, Int.zero_add, N.R_sl, N.R_it, R_oNone, R_oSome, wipeN, N.R_lst, N.R_mkF, N.R_mkT, N.R_meth, N.v_addT, Ri_rng1, Ri_rng2, Ri_seq, heq, hx, hb0]
          refine ⟨by simp [lim], ?_⟩
          rw [N.thn_nx, Rs_seq, Rs_set]
          obtain ⟨M, mm, f, t7⟩ := t12
          obtain ⟨_, s5, e5, d5, rfl, hd5, t8⟩ := R_take (Q := fun x s' => ∃ d : Nat, x = .d (.int (d : Nat)) ∧ d < 12 ∧ TS (.dic (DK rstN false M) :: [.lst ((mvs (xr hs) hs.zipIdx).map .d), .lst ((mvs (xr gs) gs.zipIdx).map .d)]) s') t7 (m := 12) (by omega) (by omega) fun d s' hd t => ⟨d, rfl, hd, t⟩
          have e5' : m__law_take s' [.r 1, .d (.int 12)] = some (.d (.int (d5 : Nat)), s5) := e5
          simp only [Rs_nil, R_call, R_cons, R_nil, R_Var, R_C, R_bin, R_cmp, R_tcmp, R_tOr, R_tAnd, R_tNot, R_tVal, R_tTrue, R_ite, R_eAnd, R_eOr, R_eNot, R_neg, R_tup, R_isi, R_some, Rc_some, N.v_eq, N.v_ne, N.v_lt, N.v_le, N.v_gt, N.v_ge, N.v_add, N.v_sub, N.v_iadd, N.v_xor, N.v_int, N.tru_b, N.pd_d, N.data_nil, N.data_cons, N.len_t, N.v_tupT, N.g_name, N.isNone_n, N.isNone_t, N.isNone_i, N.v_isN, N.v_isNn, N.v_eqB, N.v_neB, List.set_cons_succ, List.set_cons_zero, List.getElem?_cons_succ, List.getElem?_cons_zero, Bool.not_true, Bool.not_false, Bool.false_eq_true, Bool.true_eq_false, eq_self, true_implies, false_implies, true_and, and_true, decide_true, decide_false, Int.zero_add, N.R_sl, N.R_it, R_oNone, R_oSome, wipeN, N.R_lst, N.R_mkF, N.R_mkT, N.R_meth, N.v_addT, Ri_rng1, Ri_rng2, Ri_seq]
          refine R_drawn (b := 40) (l := List.range d5) (enc := fun k => .d (.int ((0 : Int) + (k : Nat)))) t7 (LS.flat f) ?_ (fun y hy r' s' Q' hr t k => ?_) (by simp [lim]; omega) fun us s' hl hb t => ?_
          · simp only [Rs_nil, R_call, R_cons, R_nil, R_Var, R_C, R_bin, R_cmp, R_tcmp, R_tOr, R_tAnd, R_tNot, R_tVal, R_tTrue, R_ite, R_eAnd, R_eOr, R_eNot, R_neg, R_tup, R_isi, R_some, Rc_some, N.v_eq, N.v_ne, N.v_lt, N.v_le, N.v_gt, N.v_ge, N.v_add, N.v_sub, N.v_iadd, N.v_xor, N.v_int, N.tru_b, N.pd_d, N.data_nil, N.data_cons, N.len_t, N.v_tupT, N.g_name, N.isNone_n, N.isNone_t, N.isNone_i, N.v_isN, N.v_isNn, N.v_eqB, N.v_neB, List.set_cons_succ, List.set_cons_zero, List.getElem?_cons_succ, List.getElem?_cons_zero, Bool.not_true, Bool.not_false, Bool.false_eq_true, Bool.true_eq_false, eq_self, true_implies, false_implies, true_and, and_true, decide_true, decide_false, Int.zero_add, N.R_sl, N.R_it, R_oNone, R_oSome, wipeN, N.R_lst, N.R_mkF, N.R_mkT, N.R_meth, N.v_addT, Ri_rng1, Ri_rng2, Ri_seq, e5']
            simp [rngD]
            exact ⟨by omega, t8⟩
          · simp only [Rs_nil, R_call, R_cons, R_nil, R_Var, R_C, R_bin, R_cmp, R_tcmp, R_tOr, R_tAnd, R_tNot, R_tVal, R_tTrue, R_ite, R_eAnd, R_eOr, R_eNot, R_neg, R_tup, R_isi, R_some, Rc_some, N.v_eq, N.v_ne, N.v_lt, N.v_le, N.v_gt, N.v_ge, N.v_add, N.v_sub, N.v_iadd, N.v_xor, N.v_int, N.tru_b, N.pd_d, N.data_nil, N.data_cons, N.len_t, N.v_tupT, N.g_name, N.isNone_n, N.isNone_t, N.isNone_i, N.v_isN, N.v_isNn, N.v_eqB, N.v_neB, List.set_cons_succ, List.set_cons_zero, List.getElem?_cons_succ, List.getElem?_cons_zero, Bool.not_true, Bool.not_false, Bool.false_eq_true, Bool.true_eq_false, eq_self, true_implies, false_implies, true_and, and_true, decide_true, decide_false, Int.zero_add, N.R_sl, N.R_it, R_oNone, R_oSome, wipeN, N.R_lst, N.R_mkF, N.R_mkT, N.R_meth, N.v_addT, Ri_rng1, Ri_rng2, Ri_seq]
            refine ⟨by simp [lim], R_take (m := 2) t (by omega) (by omega) fun d s7 hd t9 => ?_⟩
            have fin : ∀ m : Nat, 0 < m → m ≤ 40 → itF s7 (.d (.list [.int 4, .int 40])) (.d (.int (d : Nat))) = some (.d (.int (m : Nat))) → Rc (itF s7 (.d (.list [.int 4, .int 40])) (.d (.int (d : Nat)))) fun d => R (m__law_take s7 [.r 1, d]) Q' := fun m h0 h1 h2 => by
              rw [h2, Rc_some]
              exact R_take t9 h0 (Nat.lt_of_le_of_lt h1 (by decide)) fun d' s8 hd' t10 => k d' s8 (by omega) t10
            match d, hd with
            | 0, _ => exact fin 4 (by decide) (by decide) (itF_tl rfl)
            | 1, _ => exact fin 40 (by decide) (by decide) (itF_tl rfl)
          · have hul : us.length ≤ 12 := by simp at hl; omega
            simp only [Rs_nil, R_call, R_cons, R_nil, R_Var, R_C, R_bin, R_cmp, R_tcmp, R_tOr, R_tAnd, R_tNot, R_tVal, R_tTrue, R_ite, R_eAnd, R_eOr, R_eNot, R_neg, R_tup, R_isi, R_some, Rc_some, N.v_eq, N.v_ne, N.v_lt, N.v_le, N.v_gt, N.v_ge, N.v_add, N.v_sub, N.v_iadd, N.v_xor, N.v_int, N.tru_b, N.pd_d, N.data_nil, N.data_cons, N.len_t, N.v_tupT, N.g_name, N.isNone_n, N.isNone_t, N.isNone_i, N.v_isN, N.v_isNn, N.v_eqB, N.v_neB, List.set_cons_succ, List.set_cons_zero, List.getElem?_cons_succ, List.getElem?_cons_zero, Bool.not_true, Bool.not_false, Bool.false_eq_true, Bool.true_eq_false, eq_self, true_implies, false_implies, true_and, and_true, decide_true, decide_false, Int.zero_add, N.R_sl, N.R_it, R_oNone, R_oSome, wipeN, N.R_lst, N.R_mkF, N.R_mkT, N.R_meth, N.v_addT, Ri_rng1, Ri_rng2, Ri_seq, v_tupL]
            rw [N.thn_nx, Rs_seq, Rs_if]
            simp only [Rs_nil, R_call, R_cons, R_nil, R_Var, R_C, R_bin, R_cmp, R_tcmp, R_tOr, R_tAnd, R_tNot, R_tVal, R_tTrue, R_ite, R_eAnd, R_eOr, R_eNot, R_neg, R_tup, R_isi, R_some, Rc_some, N.v_eq, N.v_ne, N.v_lt, N.v_le, N.v_gt, N.v_ge, N.v_add, N.v_sub, N.v_iadd, N.v_xor, N.v_int, N.tru_b, N.pd_d, N.data_nil, N.data_cons, N.len_t, N.v_tupT, N.g_name, N.isNone_n, N.isNone_t, N.isNone_i, N.v_isN, N.v_isNn, N.v_eqB, N.v_neB, List.set_cons_succ, List.set_cons_zero, List.getElem?_cons_succ, List.getElem?_cons_zero, Bool.not_true, Bool.not_false, Bool.false_eq_true, Bool.true_eq_false, eq_self, true_implies, false_implies, true_and, and_true, decide_true, decide_false, Int.zero_add, N.R_sl, N.R_it, R_oNone, R_oSome, wipeN, N.R_lst, N.R_mkF, N.R_mkT, N.R_meth, N.v_addT, Ri_rng1, Ri_rng2, Ri_seq]
            refine R_miss (M := 41) (by simp [lim]; omega) (fun n hn => by have := hb n hn; omega) (by decide) fun k hk => ?_
            refine R_lmiss (M := 41) (fun n hn => by have := hb n hn; omega) (by decide) fun k' hk' => ?_
            rw [hk.uniq hk']
            refine R_same (sok_int _ _) ?_
            simp only [N.thn_nx, N.thn_rt, Rs_seq, Rs_set, Rs_ret, Rs_expr, Rs_nil, Rs_if, Rs_asg, Rs_aug, R_call, R_cons, R_nil, R_Var, R_C, R_bin, R_cmp, R_tcmp, R_tOr, R_tAnd, R_tNot, R_tVal, R_tTrue, R_ite, R_eAnd, R_eOr, R_eNot, R_neg, R_tup, R_isi, R_some, Rc_some, N.v_eq, N.v_ne, N.v_lt, N.v_le, N.v_gt, N.v_ge, N.v_add, N.v_sub, N.v_iadd, N.v_xor, N.v_int, N.tru_b, N.pd_d, N.data_nil, N.data_cons, N.len_t, N.v_tupT, N.g_name, N.isNone_n, N.isNone_t, N.isNone_i, N.v_isN, N.v_isNn, N.v_eqB, N.v_neB, List.set_cons_succ, List.set_cons_zero, List.getElem?_cons_succ, List.getElem?_cons_zero, Bool.not_true, Bool.not_false, Bool.false_eq_true, Bool.true_eq_false, eq_self, true_implies, false_implies, true_and, and_true, decide_true, decide_false, Int.zero_add, N.R_sl, N.R_it, R_oNone, R_oSome, wipeN, N.R_lst, N.R_mkF, N.R_mkT, N.R_meth, N.v_addT, Ri_rng1, Ri_rng2, Ri_seq, aft_nx]
            have t20 : LS ([] ++ [.lst ((mvs (xr hs) hs.zipIdx).map .d), .lst ((mvs (xr gs) gs.zipIdx).map .d)]) s' := ⟨M, mm, f, t⟩
            obtain ⟨s9, rfl, t21⟩ := t20.unapp
            refine ⟨?_, o8, rfl⟩
            rw [trimE_wf (by rw [t21.len, t2.len]) t21.wf]
            · exact t21
            · rw [t2.len]
              intro i j h
              match i, h with
              | 1, h => simp at h; omega
              | 2, h => simp at h; omega
              | 8, h => cases o8 <;> simp at h
              | 0, h => simp at h
              | 3, h => simp at h
              | 4, h => simp at h
              | 5, h => simp at h
              | 6, h => simp at h
              | 7, h => simp at h
              | 9, h => simp at h
              | 10, h => simp at h
              | 11, h => simp at h
              | n + 12, h => simp at h
end T23

namespace T23
open PySem L2 PyProof.Rows N
open Z (Dfn)
section
variable {P : Program} {w : World} {K : PySem.W.Frag} {mg : Str → Option Value}
structure Ds (K : PySem.W.Frag) (mg : Str → Option Value) : Prop where
  d_without_carry : Dfn K mg "without_carry" s_without_carry ["numbers"]
  d_least_missing : Dfn K mg "least_missing" s_least_missing ["numbers"]
  d_nim_moves : Dfn K mg "nim_moves" s_nim_moves ["heaps"]
  d__law_mix : Dfn K mg "_law_mix" s__law_mix ["number"]
  d__law_tape : Dfn K mg "_law_tape" s__law_tape ["script"]
  d__law_take : Dfn K mg "_law_take" s__law_take ["tape", "many"]
  d__law_same : Dfn K mg "_law_same" s__law_same ["a", "b"]
  d__law_left : Dfn K mg "_law_left" s__law_left ["code", "n"]
  d__law_missing : Dfn K mg "_law_missing" s__law_missing ["numbers"]
  d__law_xor : Dfn K mg "_law_xor" s__law_xor ["numbers"]
  d__law_second : Dfn K mg "_law_second" s__law_second ["code", "heaps", "known", "losing"]
  d__law_heaps : Dfn K mg "_law_heaps" s__law_heaps ["tape", "many", "most"]
  d__law_plain : Dfn K mg "_law_plain" s__law_plain ["heaps"]
  n : Nm mg
  g : Gm mg
theorem gv_int {h : Heap} {n : Str} {i : Int} {t : Tok} (X : K.In h) (G : h.Ns PySem.mainGlobals mg) (e : PySem.W.nsIn K PySem.mainGlobals n = some (some (.int i t))) : Gv mg n (.int i) := ⟨.int i, .int i t, PySem.W.mg_of X G e, ⟨t, rfl⟩, rfl⟩
theorem all_mk {h : Heap} {fa f2 : Addr} (X : K.In h) (G : h.Ns PySem.mainGlobals mg) (hfa : mg "law" = some (.ref fa)) (D : Ds K mg) {od2 an2 : Option Addr} {sl2 : Array (Option Value)} {oc2 kV2 dc2 pm2 cd2 ct2 : Value}
    (a2 : PySem.W.nsIn K PySem.mainGlobals "law" = some (some (.ref f2))) (l2 : K.lookup f2 = some ⟨oc2, od2, .func (PySem.W.fnOf "law" "law" (defArgs s_law) (defBody s_law) (defScope s_law) .none kV2 dc2 pm2 an2 cd2 ct2), sl2⟩) (c2 : PySem.W.codeIn K cd2 "law" = true) (k2 : PySem.W.keepIn K (.ref f2) = true) :
    ∃ fd : FuncData, (∀ (s : Shared) (v : Value), BindsTo s fd ⟨[v], []⟩ [("script", v)]) ∧ ∀ base : Heap, K.In base → base.Ns PySem.mainGlobals mg → FnOk P w K mg base CX0 33 fa fd ["script"] (spE K) := by
  have e := hfa.symm.trans (PySem.W.mg_of X G a2)
  cases e
  obtain ⟨fd, F2, hB⟩ : ∃ fd, Fun K "law" "law" s_law fa fd ∧ ∀ (s : Shared) (v : Value), BindsTo s fd ⟨[v], []⟩ [("script", v)] := ⟨_, fun_mk (st := s_law) l2 c2 k2, fun s v => .of_eq rfl⟩
  refine ⟨fd, hB, fun base _ _ => ?_⟩
  have h_without_carry := c_without_carry (P := P) (w := w) (base := base) D.d_without_carry D.n D.g 
  have h_least_missing := c_least_missing (P := P) (w := w) (base := base) D.d_least_missing D.n D.g 
  have h_nim_moves := c_nim_moves (P := P) (w := w) (base := base) D.d_nim_moves D.n D.g h_without_carry
  have h__law_mix := c__law_mix (P := P) (w := w) (base := base) D.d__law_mix D.n D.g 
  have h__law_tape := c__law_tape (P := P) (w := w) (base := base) D.d__law_tape D.n D.g 
  have h__law_take := c__law_take (P := P) (w := w) (base := base) D.d__law_take D.n D.g h__law_mix
  have h__law_same := c__law_same (P := P) (w := w) (base := base) D.d__law_same D.n D.g 
  have h__law_left := c__law_left (P := P) (w := w) (base := base) D.d__law_left D.n D.g 
  have h__law_missing := c__law_missing (P := P) (w := w) (base := base) D.d__law_missing D.n D.g 
  have h__law_xor := c__law_xor (P := P) (w := w) (base := base) D.d__law_xor D.n D.g 
  have h__law_second := c__law_second (P := P) (w := w) (base := base) D.d__law_second D.n D.g h__law_left
  have h__law_heaps := c__law_heaps (P := P) (w := w) (base := base) D.d__law_heaps D.n D.g h__law_take
  have h__law_plain := c__law_plain (P := P) (w := w) (base := base) D.d__law_plain D.n D.g 
  exact c_law F2 D.n D.g h__law_heaps h__law_missing h__law_plain (h__law_same 6) (h__law_second 30) h__law_take h__law_tape h__law_xor h_least_missing h_nim_moves h_without_carry fun ns hl => run hl
end
end T23
open PySem PySem.W PyProof.Rows
set_option maxHeartbeats 0 in
theorem PySem.Challenge.cw_cantmove_k23_whole_nim_holds : PySem.Challenge.rw_cantmove_k23_whole_nim.Holds := by
  w_on; o_law; k_head; (case hw => w_witness2)
  k_fill
  refine L2.walk_ofB (l := PySem.Challenge.rw_cantmove_k23_whole_nim) (n := 63) (k := 33) (x := "script") (CX := fun _ => L2.CX0) (sp := fun w => N.spE _) rfl (by decide) rfl ⟨rfl, by decide, by decide⟩ (fun w h Y => PySem.W.kIn_of Y) ?F (fun _ _ a ns hl _ _ hS => N.head_ok hl hS) (fun _ _ _ _ _ h => h)
  case F =>
    intro w mg fa h KX G hmg
    refine' T23.all_mk KX G hmg ?D ?a2 ?l2 ?c2 ?k2
    (case a2 => k_is); (case l2 => k_is); (case c2 => k_is); (case k2 => k_is)
    case D =>
      constructor
      · refine' Z.fn_dfn KX G ?aD ?lD ?cD ?kD (fun _ _ _ _ _ _ us hl => match us, hl with | [_], _ => rfl)
        (case aD => k_is); (case lD => k_is); (case cD => k_is); (case kD => k_is)
      · refine' Z.fn_dfn KX G ?aD ?lD ?cD ?kD (fun _ _ _ _ _ _ us hl => match us, hl with | [_], _ => rfl)
        (case aD => k_is); (case lD => k_is); (case cD => k_is); (case kD => k_is)
      · refine' Z.fn_dfn KX G ?aD ?lD ?cD ?kD (fun _ _ _ _ _ _ us hl => match us, hl with | [_], _ => rfl)
        (case aD => k_is); (case lD => k_is); (case cD => k_is); (case kD => k_is)
      · refine' Z.fn_dfn KX G ?aD ?lD ?cD ?kD (fun _ _ _ _ _ _ us hl => match us, hl with | [_], _ => rfl)
        (case aD => k_is); (case lD => k_is); (case cD => k_is); (case kD => k_is)
      · refine' Z.fn_dfn KX G ?aD ?lD ?cD ?kD (fun _ _ _ _ _ _ us hl => match us, hl with | [_], _ => rfl)
        (case aD => k_is); (case lD => k_is); (case cD => k_is); (case kD => k_is)
      · refine' Z.fn_dfn KX G ?aD ?lD ?cD ?kD (fun _ _ _ _ _ _ us hl => match us, hl with | [_, _], _ => rfl)
        (case aD => k_is); (case lD => k_is); (case cD => k_is); (case kD => k_is)
      · refine' Z.fn_dfn KX G ?aD ?lD ?cD ?kD (fun _ _ _ _ _ _ us hl => match us, hl with | [_, _], _ => rfl)
        (case aD => k_is); (case lD => k_is); (case cD => k_is); (case kD => k_is)
      · refine' Z.fn_dfn KX G ?aD ?lD ?cD ?kD (fun _ _ _ _ _ _ us hl => match us, hl with | [_, _], _ => rfl)
        (case aD => k_is); (case lD => k_is); (case cD => k_is); (case kD => k_is)
      · refine' Z.fn_dfn KX G ?aD ?lD ?cD ?kD (fun _ _ _ _ _ _ us hl => match us, hl with | [_], _ => rfl)
        (case aD => k_is); (case lD => k_is); (case cD => k_is); (case kD => k_is)
      · refine' Z.fn_dfn KX G ?aD ?lD ?cD ?kD (fun _ _ _ _ _ _ us hl => match us, hl with | [_], _ => rfl)
        (case aD => k_is); (case lD => k_is); (case cD => k_is); (case kD => k_is)
      · refine' Z.fn_dfn KX G ?aD ?lD ?cD ?kD (fun _ _ _ _ _ _ us hl => match us, hl with | [_, _, _, _], _ => rfl)
        (case aD => k_is); (case lD => k_is); (case cD => k_is); (case kD => k_is)
      · refine' Z.fn_dfn KX G ?aD ?lD ?cD ?kD (fun _ _ _ _ _ _ us hl => match us, hl with | [_, _, _], _ => rfl)
        (case aD => k_is); (case lD => k_is); (case cD => k_is); (case kD => k_is)
      · refine' Z.fn_dfn KX G ?aD ?lD ?cD ?kD (fun _ _ _ _ _ _ us hl => match us, hl with | [_], _ => rfl)
        (case aD => k_is); (case lD => k_is); (case cD => k_is); (case kD => k_is)
      · constructor
        · refine' PySem.W.mg_none_of KX G ?zD
          (case zD => k_is)
        · refine' PySem.W.mg_none_of KX G ?zD
          (case zD => k_is)
        · refine' PySem.W.mg_none_of KX G ?zD
          (case zD => k_is)
        · refine' PySem.W.mg_none_of KX G ?zD
          (case zD => k_is)
        · refine' PySem.W.mg_none_of KX G ?zD
          (case zD => k_is)
        · refine' PySem.W.mg_none_of KX G ?zD
          (case zD => k_is)
        · refine' PySem.W.mg_none_of KX G ?zD
          (case zD => k_is)
        · refine' PySem.W.mg_none_of KX G ?zD
          (case zD => k_is)
        · refine' PySem.W.mg_none_of KX G ?zD
          (case zD => k_is)
        · refine' PySem.W.mg_none_of KX G ?zD
          (case zD => k_is)
        · refine' PySem.W.mg_none_of KX G ?zD
          (case zD => k_is)
        · refine' PySem.W.mg_none_of KX G ?zD
          (case zD => k_is)
        · refine' PySem.W.mg_none_of KX G ?zD
          (case zD => k_is)
        · refine' PySem.W.mg_none_of KX G ?zD
          (case zD => k_is)
        · refine' PySem.W.mg_none_of KX G ?zD
          (case zD => k_is)
      · constructor
        · trivial
