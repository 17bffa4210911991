import PyProof.Rows.All
import Wide.All
import OpenK.AllK
import Wide.FinOn
import PyProof.EqAt
import PyProof.EqKinds
import PyProof.TupleCall
import PyProof.DictCompW
import KE.KEqDict
import KE.KDictKeyed
import KE.KDictWalk
import KE.KSuper
import KE.KStateDown
import HandS.ForMost
import HandS.More
import HandS.Exc
import HandS.WordsExc
import HandS.Defaults
import HandS.Deep
import HandS.IsInst
import HandS.Evl
import HandS.Style
import HandS.Star
import HandS.Rev
import HandS.TupAny
import HandS.DictComp
import HandS.OwnEq
import HandS.Codes
import HandS.Replace
import HandS.Wide
import HandS.Head0
import HandS.Head1
import HandS.Head2
import HandS.HeadEnd
import HandS.HeadHook1
import HandS.HeadHook2
import PyProof.InstNe
import KE.GoesEnum
import KE.GoesMore
import HandS.Walk
import HandS.ReplaceDef
import HandS.ReplaceLit
import HandS.Words
import PySem.Challenge.RW_makesorbars_k46_whole_every_table_by_its
set_option Elab.async false
set_option linter.all false
set_option maxRecDepth 100000
set_option maxHeartbeats 0
namespace Mk
open PySem PySem.Spec PyProof.Rows L2
/-! ### heaps -/
abbrev Ex := Evl.Ex
theorem Ex.rfl' {H : Hp} : Ex H H := Evl.Ex.refl H
theorem Ex.tr {H H1 H2 : Hp} (a : Ex H H1) (b : Ex H1 H2) : Ex H H2 := Evl.Ex.trans a b
theorem Ex.nw {H : Hp} {p : Addr} {o : HO} (h : H p = none) : Ex H (upd H p o) := Evl.Ex.new h
/-- all but d0 stands -/
def ExB (d0 : Addr) (H H' : Hp) : Prop := ∀ a o, a ≠ d0 → H a = some o → H' a = some o
theorem ExB.refl (d0 : Addr) (H : Hp) : ExB d0 H H := fun _ _ _ h => h
theorem ExB.tr {d0 : Addr} {H H1 H2 : Hp} (a : ExB d0 H H1) (b : ExB d0 H1 H2) : ExB d0 H H2 := fun c o n h => b c o n (a c o n h)
theorem Ex.but {d0 : Addr} {H H' : Hp} (e : Ex H H') : ExB d0 H H' := fun a o _ h => e a o h
theorem ExB.upd (d0 : Addr) (H : Hp) (o : HO) : ExB d0 H (upd H d0 o) := fun a u n h => by rw [upd_ne n]; exact h
/-- what is made behind H may change -/
theorem ExB.ex {d0 : Addr} {H H1 H2 : Hp} (e : Ex H H1) (b : ExB d0 H1 H2) (h : H d0 = none) : Ex H H2 := fun a o q => b a o (ne_of_none q h) (e a o q)
theorem sqt_ex {K : PySem.W.Frag} {H H' : Hp} {a : Addr} {xs : List V} (e : Ex H H') (h : SqT K H a xs) : SqT K H' a xs := Evl.ex_t e h
theorem sql_ex {K : PySem.W.Frag} {H H' : Hp} {a : Addr} {xs : List V} (e : Ex H H') (h : SqL K H a xs) : SqL K H' a xs := Evl.ex_l e h
/-- no tuple at d0 -/
def NoT (H : Hp) (d0 : Addr) : Prop := ∀ xs, ¬ Rd H d0 (.tup xs)
theorem noT_of {H : Hp} {d0 : Addr} {o : HO} (h : H d0 = some o) (h1 : ∀ xs, o ≠ .tup xs) (h2 : ∀ ob xs, o ≠ .frz ob (.tup xs)) : NoT H d0 := fun xs r => by
  rcases r with r | ⟨ob, r⟩
  · rw [h] at r; exact h1 xs (Option.some.inj r)
  · rw [h] at r; exact h2 ob xs (Option.some.inj r)
theorem noT_lst {H : Hp} {d0 : Addr} {xs : List V} (h : H d0 = some (.lst xs)) : NoT H d0 := noT_of h (fun _ e => nomatch e) fun _ _ e => nomatch e
theorem noT_ext {H : Hp} {d0 : Addr} {φ : Heap → Prop} (h : H d0 = some (.ext φ)) : NoT H d0 := noT_of h (fun _ e => nomatch e) fun _ _ e => nomatch e
theorem noT_ins {H : Hp} {d0 C dx : Addr} {fs : List (Str × V)} (h : H d0 = some (.ins C dx fs)) : NoT H d0 := noT_of h (fun _ e => nomatch e) fun _ _ e => nomatch e
theorem noT_dK {H : Hp} {d0 : Addr} {kvs : List (Key × V)} (h : H d0 = some (.dK kvs)) : NoT H d0 := noT_of h (fun _ e => nomatch e) fun _ _ e => nomatch e
theorem noT_none {H : Hp} {d0 : Addr} (h : H d0 = none) : NoT H d0 := fun xs r => by
  rcases r with r | ⟨ob, r⟩ <;> (rw [h] at r; cases r)
theorem sqt_but {K : PySem.W.Frag} {H H' : Hp} {d0 a : Addr} {xs : List V} (e : ExB d0 H H') (n : NoT H d0) (h : SqT K H a xs) : SqT K H' a xs := by
  rcases h with h | h
  · have hne : a ≠ d0 := fun z => by rw [z] at h; exact n xs h
    rcases h with h | ⟨ob, h⟩
    · exact .inl (.inl (e _ _ hne h))
    · exact .inl (.inr ⟨ob, e _ _ hne h⟩)
  · exact .inr h
/-! ### data -/
mutual
/-- no list within -/
def tupOnly : PyData → Bool
  | .list _ => false
  | .tuple ds => tupOnlyAll ds
  | _ => true
def tupOnlyAll : List PyData → Bool
  | [] => true
  | d :: ds => tupOnly d && tupOnlyAll ds
end
section
variable {K : PySem.W.Frag} {H H' : Hp}
mutual
theorem dp_ex (e : Ex H H') : ∀ (d : PyData) (v : V), Dp K H v d → Dp K H' v d
  | .none, _, h => by cases h; exact .non
  | .bool _, _, h => by cases h; exact .bl _
  | .int _, _, h => by cases h; exact .int _
  | .str _, _, h => by cases h; exact .str _
  | .list ds, _, h => by
    cases h with
    | lst hs ha => exact .lst (sql_ex e hs) (dpa_ex e ds _ ha)
  | .tuple ds, _, h => by
    cases h with
    | tup hs ha => exact .tup (sqt_ex e hs) (dpa_ex e ds _ ha)
  | .dict _, _, h => by cases h
theorem dpa_ex (e : Ex H H') : ∀ (ds : List PyData) (vs : List V), DpAll K H vs ds → DpAll K H' vs ds
  | [], _, h => by cases h; exact .nil
  | d :: ds, _, h => by
    cases h with
    | cons h1 h2 => exact .cons (dp_ex e d _ h1) (dpa_ex e ds _ h2)
end
mutual
theorem dp_but (e : ∀ a xs, SqT K H a xs → SqT K H' a xs) : ∀ (d : PyData) (v : V), tupOnly d = true → Dp K H v d → Dp K H' v d
  | .none, _, _, h => by cases h; exact .non
  | .bool _, _, _, h => by cases h; exact .bl _
  | .int _, _, _, h => by cases h; exact .int _
  | .str _, _, _, h => by cases h; exact .str _
  | .list ds, _, t, h => by simp [tupOnly] at t
  | .tuple ds, _, t, h => by
    cases h with
    | tup hs ha => exact .tup (e _ _ hs) (dpa_but e ds _ (by simpa [tupOnly] using t) ha)
  | .dict _, _, _, h => by cases h
theorem dpa_but (e : ∀ a xs, SqT K H a xs → SqT K H' a xs) : ∀ (ds : List PyData) (vs : List V), tupOnlyAll ds = true → DpAll K H vs ds → DpAll K H' vs ds
  | [], _, _, h => by cases h; exact .nil
  | d :: ds, _, t, h => by
    simp only [tupOnlyAll, Bool.and_eq_true] at t
    cases h with
    | cons h1 h2 => exact .cons (dp_but e d _ t.1 h1) (dpa_but e ds _ t.2 h2)
end
theorem dpa_len : ∀ {vs : List V} {ds : List PyData}, DpAll K H vs ds → vs.length = ds.length
  | _, [], h => by cases h; rfl
  | _, d :: ds, h => by
    cases h with
    | cons h1 h2 => rw [List.length_cons, List.length_cons, dpa_len h2]
theorem dpa_get : ∀ {vs : List V} {ds : List PyData} {i : Nat} {d : PyData}, DpAll K H vs ds → ds[i]? = some d → ∃ v, vs[i]? = some v ∧ Dp K H v d
  | _, [], i, d, h, e => by simp at e
  | _, c :: ds, i, d, h, e => by
    cases h with
    | cons h1 h2 =>
      cases i with
      | zero =>
        have e2 : c = d := Option.some.inj e
        subst e2
        exact ⟨_, rfl, h1⟩
      | succ i => exact dpa_get (i := i) h2 e
theorem dpa_getV : ∀ {vs : List V} {ds : List PyData} {i : Nat} {v : V}, DpAll K H vs ds → vs[i]? = some v → ∃ d, ds[i]? = some d ∧ Dp K H v d
  | _, [], i, v, h, e => by cases h; simp at e
  | _, c :: ds, i, v, h, e => by
    cases h with
    | cons h1 h2 =>
      cases i with
      | zero =>
        have e2 := Option.some.inj e
        subst e2
        exact ⟨_, rfl, h1⟩
      | succ i => exact dpa_getV (i := i) h2 e
theorem dpa_app : ∀ {vs ws : List V} {ds es : List PyData}, DpAll K H vs ds → DpAll K H ws es → DpAll K H (vs ++ ws) (ds ++ es)
  | _, ws, [], es, h, h' => by cases h; exact h'
  | _, ws, d :: ds, es, h, h' => by
    cases h with
    | cons h1 h2 => exact .cons h1 (dpa_app h2 h')
theorem dp_int {v : V} {i : Int} (h : Dp K H v (.int i)) : v = .int i := by cases h; rfl
theorem dp_non {v : V} (h : Dp K H v .none) : v = .non := by cases h; rfl
theorem dp_str {v : V} {x : Str} (h : Dp K H v (.str x)) : v = .str x := by cases h; rfl
theorem dp_tup {v : V} {ds : List PyData} (h : Dp K H v (.tuple ds)) : ∃ a xs, v = .ref a ∧ SqT K H a xs ∧ DpAll K H xs ds := by
  cases h with
  | tup hs ha => exact ⟨_, _, rfl, hs, ha⟩
theorem dp_lst {v : V} {ds : List PyData} (h : Dp K H v (.list ds)) : ∃ a xs, v = .ref a ∧ SqL K H a xs ∧ DpAll K H xs ds := by
  cases h with
  | lst hs ha => exact ⟨_, _, rfl, hs, ha⟩
end
end Mk
namespace Mk
open PySem PySem.Spec PyProof.Rows L2
/-! ### dicts whose keys are tuples of any depth -/
abbrev NE := NestedKey × Addr × V
abbrev NX := NestedKey × Addr × Value
def NRel (p : NE) (q : NX) : Prop := p.1 = q.1 ∧ p.2.1 = q.2.1 ∧ RelV p.2.2 q.2.2
/-- a dict object with these entries; what the keys' tuples hold is told apart -/
def NdRaw (P : Program) (w : World) (h : Heap) (d : Addr) (xs : List NX) : Prop :=
  ∃ o es ep, h.get? d = some o ∧ o.ExactDict ∧ o.data = .dict es ep ∧ es.toList = xs.map (entryOfKey (nestedKind P w)) ∧ (xs.map (·.1)).Nodup
def NdF (P : Program) (w : World) (d : Addr) (es : List NE) (h : Heap) : Prop := es.length ≤ sizeLine ∧ (d == sysModules) = false ∧ ∃ xs : List NX, Paired NRel es xs ∧ NdRaw P w h d xs
def NdO (P : Program) (w : World) (d : Addr) (es : List NE) : HO := .ext (NdF P w d es)
mutual
/-- a key, as data -/
def kd : NestedKey → PyData
  | .none => .none
  | .num i => .int i
  | .text x => .str x
  | .tup ks => .tuple (kds ks)
def kds : List NestedKey → List PyData
  | [] => []
  | k :: ks => kd k :: kds ks
end
mutual
theorem kd_tup : ∀ k : NestedKey, tupOnly (kd k) = true
  | .none => by simp [kd, tupOnly]
  | .num _ => by simp [kd, tupOnly]
  | .text _ => by simp [kd, tupOnly]
  | .tup ks => by simp only [kd, tupOnly]; exact kds_tup ks
theorem kds_tup : ∀ ks : List NestedKey, tupOnlyAll (kds ks) = true
  | [] => by simp [kds, tupOnlyAll]
  | k :: ks => by simp only [kds, tupOnlyAll, Bool.and_eq_true]; exact ⟨kd_tup k, kds_tup ks⟩
end
/-- the tuple at a is the key k -/
def NK (K : PySem.W.Frag) (H : Hp) (k : NestedKey) (a : Addr) : Prop := k.depth ≤ 8 ∧ Dp K H (.ref a) (kd k)
section
variable {X : Cx} {pins : List (Addr × Obj)} {σ : L2.St} {H : Hp} {s : Shared}
mutual
theorem nk_is (I : Inv X pins σ H s) : ∀ (k : NestedKey) (v : V) (u : Value), Dp X.K H v (kd k) → RelV v u → NestedIs s.heap k u
  | .none, _, _, h, r => by
    cases h
    cases r
    exact .none
  | .num i, _, _, h, r => by
    cases h
    obtain ⟨t, rfl⟩ := r
    exact .int i t
  | .text x, _, _, h, r => by
    cases h
    obtain ⟨t, rfl⟩ := r
    exact .text x t
  | .tup ks, v, u, h, r => by
    obtain ⟨a, xs, rfl, hs, ha⟩ := dp_tup (show Dp X.K H v (.tuple (kds ks)) from h)
    cases r
    obtain ⟨its, rv, ⟨o, ho, hc, n, hd⟩, _⟩ := I.tuple hs
    exact .tup ho hc hd (nk_all I ks _ its ha rv)
theorem nk_all (I : Inv X pins σ H s) : ∀ (ks : List NestedKey) (vs : List V) (us : List Value), DpAll X.K H vs (kds ks) → Vals vs us → NestedAll s.heap ks us
  | [], _, _, h, r => by
    cases h
    cases r
    exact .nil
  | k :: ks, _, _, h, r => by
    have h' : DpAll X.K H _ (kd k :: kds ks) := h
    cases h' with
    | cons h1 h2 =>
      cases r with
      | cons r1 r2 => exact .cons (nk_is I k _ _ h1 r1) (nk_all I ks _ _ h2 r2)
end
theorem nk_key (I : Inv X pins σ H s) {k : NestedKey} {a : Addr} (h : NK X.K H k a) : (nestedKind X.prog X.w).is s.heap k a := ⟨nk_is I k _ _ h.2 rfl, h.1⟩
end
/-- at d a dict of these keys and values -/
def ND (P : Program) (w : World) (K : PySem.W.Frag) (H : Hp) (d : Addr) (kvs : List (NestedKey × V)) : Prop :=
  ∃ es : List NE, H d = some (NdO P w d es) ∧ es.map (fun e => (e.1, e.2.2)) = kvs ∧ ∀ e ∈ es, NK K H e.1 e.2.1
section
variable {P : Program} {w : World} {K : PySem.W.Frag} {H H' : Hp} {d d0 : Addr} {kvs : List (NestedKey × V)} {k : NestedKey} {a : Addr}
theorem NK.ex (e : Ex H H') (h : NK K H k a) : NK K H' k a := ⟨h.1, dp_ex e _ _ h.2⟩
theorem NK.but (e : ExB d0 H H') (n : NoT H d0) (h : NK K H k a) : NK K H' k a := ⟨h.1, dp_but (fun _ _ q => sqt_but e n q) _ _ (kd_tup k) h.2⟩
theorem ND.ex (e : Ex H H') (h : ND P w K H d kvs) : ND P w K H' d kvs := by
  obtain ⟨es, h1, h2, h3⟩ := h
  exact ⟨es, e _ _ h1, h2, fun x hx => (h3 x hx).ex e⟩
theorem ND.but (e : ExB d0 H H') (n : NoT H d0) (hd : d ≠ d0) (h : ND P w K H d kvs) : ND P w K H' d kvs := by
  obtain ⟨es, h1, h2, h3⟩ := h
  exact ⟨es, e _ _ hd h1, h2, fun x hx => (h3 x hx).but e n⟩
theorem ND.noT (h : ND P w K H d kvs) : NoT H d := by
  obtain ⟨es, h1, _⟩ := h
  exact noT_ext h1
theorem ND.some (h : ND P w K H d kvs) : ∃ o, H d = some o := let ⟨_, h1, _⟩ := h; ⟨_, h1⟩
end
/-! ### entries -/
theorem nr_keys : ∀ {es : List NE} {xs : List NX}, Paired NRel es xs → xs.map (·.1) = es.map (·.1)
  | _, _, .nil => rfl
  | _, _, .cons r t => by rw [List.map_cons, List.map_cons, r.1, nr_keys t]
theorem nr_pairs : ∀ {es : List NE} {xs : List NX} {k : NestedKey}, Paired NRel es xs → (atKey xs k).isSome = (valV (es.map fun e => (e.1, e.2.2)) k).isSome
  | _, _, k, .nil => rfl
  | e :: es, x :: xs, k, .cons r t => by
    have ih := nr_pairs (k := k) t
    by_cases h : x.1 = k
    · have h' : e.1 = k := by rw [r.1]; exact h
      rw [List.map_cons, valV_pos (p := (e.1, e.2.2)) h']
      simp [atKey, h]
    · have h' : ¬ e.1 = k := by rw [r.1]; exact h
      rw [List.map_cons, valV_neg (p := (e.1, e.2.2)) h', ← ih]
      simp [atKey, h]
theorem nr_get : ∀ {es : List NE} {xs : List NX} {k : NestedKey} {v : V}, Paired NRel es xs → valV (es.map fun e => (e.1, e.2.2)) k = some v → ∃ p, atKey xs k = some p ∧ RelV v p.2
  | _, _, k, v, .nil, h => by simp [valV] at h
  | e :: es, x :: xs, k, v, .cons r t, h => by
    by_cases hk : x.1 = k
    · have h' : e.1 = k := by rw [r.1]; exact hk
      rw [List.map_cons, valV_pos (p := (e.1, e.2.2)) h'] at h
      have ev : e.2.2 = v := Option.some.inj h
      refine ⟨x.2, by simp [atKey, hk], ?_⟩
      rw [← ev]
      exact r.2.2
    · have h' : ¬ e.1 = k := by rw [r.1]; exact hk
      rw [List.map_cons, valV_neg (p := (e.1, e.2.2)) h'] at h
      obtain ⟨p, e1, e2⟩ := nr_get t h
      exact ⟨p, by rw [← e1]; simp [atKey, hk], e2⟩
/-- the entries with the value stored -/
def putE (es : List NE) (k : NestedKey) (a : Addr) (v : V) : List NE := if (valV (es.map fun e => (e.1, e.2.2)) k).isSome then es.map (fun e => if e.1 = k then (e.1, e.2.1, v) else e) else es ++ [(k, a, v)]
theorem putE_map (es : List NE) (k : NestedKey) (a : Addr) (v : V) : (putE es k a v).map (fun e => (e.1, e.2.2)) = putK (es.map fun e => (e.1, e.2.2)) k v := by
  unfold putE putK
  have hb : ((es.map fun e => (e.1, e.2.2)).any fun kv => decide (kv.1 = k)) = (valV (es.map fun e => (e.1, e.2.2)) k).isSome := valV_any _ _
  rw [hb]
  cases h : (valV (es.map fun e => (e.1, e.2.2)) k).isSome with
  | true =>
    simp only [if_true, List.map_map]
    refine List.map_congr_left fun e _ => ?_
    by_cases hk : e.1 = k <;> simp [hk]
  | false =>
    simp only [Bool.false_eq_true, if_false, List.map_append]
    rfl
theorem putE_len (es : List NE) (k : NestedKey) (a : Addr) (v : V) : (putE es k a v).length ≤ es.length + 1 := by
  unfold putE
  split
  · rw [List.length_map]; omega
  · rw [List.length_append]; simp
theorem putE_mem {es : List NE} {k : NestedKey} {a : Addr} {v : V} {e : NE} (h : e ∈ putE es k a v) : (∃ e0 ∈ es, e.1 = e0.1 ∧ e.2.1 = e0.2.1) ∨ (e.1 = k ∧ e.2.1 = a) := by
  unfold putE at h
  split at h
  · obtain ⟨e0, h0, rfl⟩ := List.mem_map.mp h
    refine .inl ⟨e0, h0, ?_⟩
    split <;> exact ⟨rfl, rfl⟩
  · rcases List.mem_append.mp h with h | h
    · exact .inl ⟨e, h, rfl, rfl⟩
    · rw [List.mem_singleton.mp h]
      exact .inr ⟨rfl, rfl⟩
theorem nr_put1 {k : NestedKey} {v : V} {u : Value} (rv : RelV v u) : ∀ {es : List NE} {xs : List NX}, Paired NRel es xs → Paired NRel (es.map fun e => if e.1 = k then (e.1, e.2.1, v) else e) (xs.map (putAt k u))
  | _, _, .nil => .nil
  | e :: es, x :: xs, .cons q t => by
    refine .cons ?_ (nr_put1 rv t)
    show NRel (if e.1 = k then (e.1, e.2.1, v) else e) (putAt k u x)
    by_cases hk : e.1 = k
    · have hx : x.1 = k := by rw [← q.1]; exact hk
      rw [if_pos hk, putAt, if_pos hx]
      exact ⟨q.1, q.2.1, rv⟩
    · have hx : ¬ x.1 = k := by rw [← q.1]; exact hk
      rw [if_neg hk, putAt, if_neg hx]
      exact q
theorem nr_put2 {k : NestedKey} {a : Addr} {v : V} {u : Value} (rv : RelV v u) : ∀ {es : List NE} {xs : List NX}, Paired NRel es xs → Paired NRel (es ++ [(k, a, v)]) (xs ++ [(k, a, u)])
  | _, _, .nil => .cons ⟨rfl, rfl, rv⟩ .nil
  | _, _, .cons q t => .cons q (nr_put2 rv t)
theorem nr_put {k : NestedKey} {a : Addr} {v : V} {u : Value} (rv : RelV v u) {es : List NE} {xs : List NX} (r : Paired NRel es xs) : Paired NRel (putE es k a v) (storedH xs k a u) := by
  unfold putE storedH
  rw [nr_pairs r]
  cases (valV (es.map fun e => (e.1, e.2.2)) k).isSome with
  | true => exact nr_put1 rv r
  | false => exact nr_put2 rv r
section
variable {X : Cx} {pins : List (Addr × Obj)} {σ : L2.St} {H : Hp} {s : Shared} {E : Value → Shared → Prop} {d a : Addr} {k : NestedKey} {kvs : List (NestedKey × V)}
/-- what stands there -/
theorem nd_at (I : Inv X pins σ H s) (h : ND X.prog X.w X.K H d kvs) : ∃ (es : List NE) (xs : List NX), H d = some (NdO X.prog X.w d es) ∧ es.map (fun e => (e.1, e.2.2)) = kvs ∧ (∀ e ∈ es, NK X.K H e.1 e.2.1) ∧ es.length ≤ sizeLine ∧ (d == sysModules) = false ∧ Paired NRel es xs ∧ s.heap.DictOfH (nestedKind X.prog X.w) d xs := by
  obtain ⟨es, h1, h2, h3⟩ := h
  obtain ⟨⟨z, hs, xs, r, o, ens, ep, ho, hc, hd, he, hn⟩, _⟩ := I.hok d _ h1
  refine ⟨es, xs, h1, h2, h3, z, hs, r, o, ens, ep, ho, hc, hd, he, fun x hx => ?_, hn⟩
  obtain ⟨i, hi, e⟩ := List.getElem_of_mem hx
  have hl := Paired.length r
  have hi' : i < es.length := by omega
  have key : ∀ {es : List NE} {xs : List NX} {i : Nat} (h1 : i < es.length) (h2 : i < xs.length), Paired NRel es xs → NRel es[i] xs[i] := by
    intro es xs i h1 h2 r
    induction r generalizing i with
    | nil => simp at h1
    | cons q t ih =>
      cases i with
      | zero => exact q
      | succ i => exact ih (by simpa using h1) (by simpa using h2)
  have q := key hi' hi r
  rw [e] at q
  have q3 := nk_key I (h3 _ (List.getElem_mem hi'))
  rw [q.1, q.2.1] at q3
  exact q3
theorem nroom (hu : X.A.units + 64 < cLine) : (nestedKind X.prog X.w).room X.A.in1 := by show X.A.units + 1 + 8 < cLine; omega
theorem nroom0 (hu : X.A.units + 64 < cLine) : (nestedKind X.prog X.w).room X.A := by show X.A.units + 8 < cLine; omega
theorem n_in {Q : Value → Shared → Prop} (hu : X.A.units + 64 < cLine) (I : Inv X pins σ H s) (h : ND X.prog X.w X.K H d kvs) (hk : NK X.K H k a) (q : ∀ s', Inv X pins σ H s' → Q (.bool (valV kvs k).isSome) s') :
    wpAny (model X.prog X.w) X.A (compareOp .In (.ref a) (.ref d)) Q E s := by
  obtain ⟨es, xs, _, rfl, _, _, hs, r, hm⟩ := nd_at I h
  refine wpAny_in_heap (nroom hu) (nk_key I hk) hs hm ?_
  rw [nr_pairs r]
  exact q _ (I.tok _)
theorem n_notIn {Q : Value → Shared → Prop} (hu : X.A.units + 64 < cLine) (I : Inv X pins σ H s) (h : ND X.prog X.w X.K H d kvs) (hk : NK X.K H k a) (q : ∀ s', Inv X pins σ H s' → Q (.bool (!(valV kvs k).isSome)) s') :
    wpAny (model X.prog X.w) X.A (compareOp .NotIn (.ref a) (.ref d)) Q E s := by
  obtain ⟨es, xs, _, rfl, _, _, hs, r, hm⟩ := nd_at I h
  refine notIn_keyed (kvs := pairsH xs) (nroom hu) (nk_key I hk) hs ⟨xs, hm, rfl⟩ ?_
  rw [valueAt_pairsH, Option.isSome_map, nr_pairs r]
  exact q _ (I.tok _)
theorem n_get {v : V} {Q : Value → Shared → Prop} (hu : X.A.units + 64 < cLine) (I : Inv X pins σ H s) (h : ND X.prog X.w X.K H d kvs) (hk : NK X.K H k a) (hv : valV kvs k = some v) (q : ∀ u s', Inv X pins σ H s' → RelV v u → Q u s') :
    wpAny (model X.prog X.w) X.A (getItem (.ref d) (.ref a)) Q E s := by
  obtain ⟨es, xs, _, rfl, _, _, hs, r, hm⟩ := nd_at I h
  obtain ⟨p, e, rp⟩ := nr_get r hv
  exact wpAny_getItem_heap (nroom hu) (nk_key I hk) hm e (q _ _ (I.tok _) rp)
theorem n_get2 {x : V} {ux : Value} {Q : Value → Shared → Prop} (hu : X.A.units + 64 < cLine) (I : Inv X pins σ H s) (h : ND X.prog X.w X.K H d kvs) (hk : NK X.K H k a) (rx : RelV x ux) (q : ∀ u s', Inv X pins σ H s' → RelV ((valV kvs k).getD x) u → Q u s') :
    wpAny (model X.prog X.w) X.A (call (.builtin "dict.get") [.ref d, .ref a, ux]) Q E s := by
  obtain ⟨es, xs, _, rfl, _, _, hs, r, hm⟩ := nd_at I h
  refine getOr_keyed (kvs := pairsH xs) (nroom hu) (nk_key I hk) hs ⟨xs, hm, rfl⟩ (q _ _ (I.tok _) ?_)
  rw [valueAt_pairsH]
  cases hv : valV (es.map fun e => (e.1, e.2.2)) k with
  | none =>
    have e := nr_pairs (k := k) r
    rw [hv] at e
    have e2 : atKey xs k = none := by
      cases z : atKey xs k with
      | none => rfl
      | some p => rw [z] at e; simp at e
    rw [e2]
    exact rx
  | some v =>
    obtain ⟨p, e, rp⟩ := nr_get r hv
    rw [e]
    exact rp
theorem n_len {Q : Value → Shared → Prop} (I : Inv X pins σ H s) (h : ND X.prog X.w X.K H d kvs) (q : ∀ t s', Inv X pins σ H s' → Q (.int kvs.length t) s') : wpAny (model X.prog X.w) X.A (call (.builtin "len") [.ref d]) Q E s := by
  obtain ⟨es, xs, _, rfl, _, z, hs, r, hm⟩ := nd_at I h
  have hl : (pairsH xs).length = es.length := by rw [pairsH_length, Paired.length r]
  refine PyProof.Rows.call_len_slot (n := (pairsH xs).length) hm.typeIs F.slot_dict_len (fun Q' hq => len_keyed (kvs := pairsH xs) hs ⟨xs, hm, rfl⟩ hq) (by omega) (by rw [sizeLine_eq] at z; omega) ?_
  rw [hl, List.length_map] at *
  exact q _ _ (I.tok _)
/-- the new heap -/
theorem n_put_inv {h' : Heap} {t : Nat} {v : V} {u : Value} {es : List NE} {xs : List NX} (I : Inv X pins σ H s) (h1 : H d = some (NdO X.prog X.w d es)) (hz : es.length < sizeLine) (hs : (d == sysModules) = false) (r : Paired NRel es xs) (rv : RelV v u)
    (hm : h'.DictOfH (nestedKind X.prog X.w) d (storedH xs k a u)) (sb : Heap.SameBut d s.heap h') : Inv X pins σ (upd H d (NdO X.prog X.w d (putE es k a v))) { s with heap := h', toks := t } := by
  obtain ⟨o, ens, ep, ho, hc, hd, he, _, hn⟩ := hm
  have new : NdF X.prog X.w d (putE es k a v) h' := ⟨by have := putE_len es k a v; omega, hs, _, nr_put rv r, o, ens, ep, ho, hc, hd, he, hn⟩
  refine I.write (x := d) (e := d) (by rw [h1]; exact True.intro) (.inl rfl) (fun b w' hb q => (sb.2 b hb).trans q) ⟨o, ho⟩ ⟨new, ⟨o, ho⟩, ?_⟩
  intro g1 g2 p k
  obtain ⟨z, hs, xs, r, o, ens, ep, ho, rest⟩ := p
  exact ⟨z, hs, xs, r, o, ens, ep, k _ ho, rest⟩
theorem nd_put {v : V} {es : List NE} {o : HO} (h1 : H d = some (NdO X.prog X.w d es)) (h2 : es.map (fun e => (e.1, e.2.2)) = kvs) (h3 : ∀ e ∈ es, NK X.K H e.1 e.2.1) (hk : NK X.K H k a) (ho : o = NdO X.prog X.w d (putE es k a v)) : ND X.prog X.w X.K (upd H d o) d (putK kvs k v) := by
  subst ho
  refine ⟨_, upd_same, by rw [putE_map, h2], fun e he => ?_⟩
  have nt : NoT H d := noT_ext h1
  rcases putE_mem he with ⟨e0, m, e1, e2⟩ | ⟨e1, e2⟩
  · rw [e1, e2]
    exact (h3 e0 m).but (ExB.upd d H _) nt
  · rw [e1, e2]
    exact hk.but (ExB.upd d H _) nt
theorem n_set {v : V} {u : Value} {Q : Unit → Shared → Prop} (hu : X.A.units + 64 < cLine) (I : Inv X pins σ H s) (h : ND X.prog X.w X.K H d kvs) (hk : NK X.K H k a) (hz : kvs.length < sizeLine) (rv : RelV v u)
    (q : ∀ o s', ND X.prog X.w X.K (upd H d o) d (putK kvs k v) → Inv X pins σ (upd H d o) s' → Q () s') : wpAny (model X.prog X.w) X.A (setItem (.ref d) (.ref a) u) Q E s := by
  obtain ⟨es, xs, h1, h2, h3, z, hs, r, hm⟩ := nd_at I h
  have hze : es.length < sizeLine := by rw [← h2, List.length_map] at hz; exact hz
  refine wpAny_setItem_heap (nroom hu) (nk_key I hk) hm (fun h' hm' sb => ?_) (by rw [← Paired.length r]; exact z)
  exact q _ _ (nd_put h1 h2 h3 hk rfl) (n_put_inv I h1 hze hs r rv hm' sb)
theorem n_dictSet {v : V} {u : Value} {Q : Unit → Shared → Prop} (hu : X.A.units + 64 < cLine) (I : Inv X pins σ H s) (h : ND X.prog X.w X.K H d kvs) (hk : NK X.K H k a) (hz : kvs.length < sizeLine) (rv : RelV v u)
    (q : ∀ o s', ND X.prog X.w X.K (upd H d o) d (putK kvs k v) → Inv X pins σ (upd H d o) s' → Q () s') : wpAny (model X.prog X.w) X.A (dictSet d (.ref a) u) Q E s := by
  obtain ⟨es, xs, h1, h2, h3, z, hs, r, hm⟩ := nd_at I h
  have hze : es.length < sizeLine := by rw [← h2, List.length_map] at hz; exact hz
  refine wpAny_dictSet_heap (nroom0 hu) (nk_key I hk) hm (fun h' hm' sb => ?_) (by rw [← Paired.length r]; exact z)
  exact q _ _ (nd_put h1 h2 h3 hk rfl) (n_put_inv I h1 hze hs r rv hm' sb)
theorem ndO_empty (I : Inv X pins σ H s) {h' : Heap} (hp : h'.get? s.heap.objs.size = some { cls := .type "dict", data := .dict #[] }) : ObjOk X.prog X.w (upd H s.heap.objs.size (NdO X.prog X.w s.heap.objs.size [])) h' s.heap.objs.size (NdO X.prog X.w s.heap.objs.size []) := by
  refine ⟨⟨Nat.zero_le _, ?_, [], .nil, _, #[], 0, hp, ⟨rfl, rfl, rfl⟩, rfl, rfl, List.nodup_nil⟩, ⟨_, hp⟩, ?_⟩
  · exact beq_eq_false_iff_ne.mpr (Ne.symm (Nat.ne_of_lt I.big))
  · intro g1 g2 p k
    obtain ⟨z, hs, xs, r, o, ens, ep, ho, rest⟩ := p
    exact ⟨z, hs, xs, r, o, ens, ep, k _ ho, rest⟩
theorem nd_empty {o : HO} {H : Hp} (ho : o = NdO X.prog X.w d []) : ND X.prog X.w X.K (upd H d o) d [] := by
  subst ho
  exact ⟨[], upd_same, rfl, fun _ h => nomatch h⟩
end
end Mk
namespace Mk
open PySem PySem.Spec PyProof.Rows L2
section
variable {X : Cx} {o i e value f : Expr} {pos pos' tpos apos cpos : Pos} {td ty tv tx : TE}
def tNIn (P : Program) (w : World) (K : PySem.W.Frag) (ty td : TE) : TE := fun σ H Q => ty σ H fun y H1 => td σ H1 fun x H2 => ∃ d a k kvs, y = .ref a ∧ x = .ref d ∧ ND P w K H2 d kvs ∧ NK K H2 k a ∧ Q (.bl (valV kvs k).isSome) H2
def tNNot (P : Program) (w : World) (K : PySem.W.Frag) (ty td : TE) : TE := fun σ H Q => ty σ H fun y H1 => td σ H1 fun x H2 => ∃ d a k kvs, y = .ref a ∧ x = .ref d ∧ ND P w K H2 d kvs ∧ NK K H2 k a ∧ Q (.bl (!(valV kvs k).isSome)) H2
theorem pc_nin (hu : X.A.units + 64 < cLine) (hi : PE X i ty) (ho : PE X o td) : PC X .In i o (tNIn X.prog X.w X.K ty td) := by
  refine ⟨fun pins s σ H Q I h => ?_⟩
  refine thn (hi.run pins s σ H _ I h) fun iv s1 ⟨y, H1, I1, ry, q1⟩ => thn (ho.run pins s1 σ H1 _ I1 q1) fun u s2 ⟨x, H2, I2, rx, d, a, k, kvs, ey, ex, hd, hk, q2⟩ => ?_
  subst ey ex
  cases rx
  cases ry
  exact n_in hu I2 hd hk fun s3 I3 => ⟨.bl _, H2, I3, rfl, q2⟩
theorem pc_nnotin (hu : X.A.units + 64 < cLine) (hi : PE X i ty) (ho : PE X o td) : PC X .NotIn i o (tNNot X.prog X.w X.K ty td) := by
  refine ⟨fun pins s σ H Q I h => ?_⟩
  refine thn (hi.run pins s σ H _ I h) fun iv s1 ⟨y, H1, I1, ry, q1⟩ => thn (ho.run pins s1 σ H1 _ I1 q1) fun u s2 ⟨x, H2, I2, rx, d, a, k, kvs, ey, ex, hd, hk, q2⟩ => ?_
  subst ey ex
  cases rx
  cases ry
  exact n_notIn hu I2 hd hk fun s3 I3 => ⟨.bl _, H2, I3, rfl, q2⟩
def tNGet (P : Program) (w : World) (K : PySem.W.Frag) (td ty : TE) : TE := fun σ H Q => td σ H fun x H1 => ty σ H1 fun y H2 => ∃ d a k kvs v, x = .ref d ∧ y = .ref a ∧ ND P w K H2 d kvs ∧ NK K H2 k a ∧ valV kvs k = some v ∧ Q v H2
theorem pe_nget (hu : X.A.units + 64 < cLine) (ho : PE X o td) (hi : PE X i ty) (hs : NoSl i) : PE X (.Subscript o i pos) (tNGet X.prog X.w X.K td ty) := by
  refine ⟨fun pins s σ H Q I h => ?_⟩
  refine subD_of PySem.F.slot_dict_getitem.lookup hs (thn (ho.run pins s σ H _ I h) fun u s1 ⟨x, H1, I1, rx, q1⟩ => thn (hi.run pins s1 σ H1 _ I1 q1) fun iv s2 ⟨y, H2, I2, ry, d, a, k, kvs, v, ex, ey, hd, hk, hv, q2⟩ => ?_)
  subst ex ey
  cases rx
  cases ry
  obtain ⟨es, xs, _, _, _, _, _, _, hm⟩ := nd_at I2 hd
  exact ⟨hm.typeIs, n_get hu I2 hd hk hv fun w' s3 I3 rw' => ⟨v, H2, I3, rw', q2⟩⟩
def sNPut (P : Program) (w : World) (K : PySem.W.Frag) (td ty tv : TE) : TS := fun D σ H => tv σ H fun v H1 => td σ H1 fun x H2 => ty σ H2 fun y H3 => ∃ d a k kvs, x = .ref d ∧ y = .ref a ∧ ND P w K H3 d kvs ∧ NK K H3 k a ∧ kvs.length < sizeLine ∧
  ∀ o, ND P w K (upd H3 d o) d (putK kvs k v) → D.nx σ (upd H3 d o)
theorem ps_nput (hu : X.A.units + 64 < cLine) (ho : PE X o td) (hi : PE X i ty) (hv : PE X value tv) (hs : swapsWith value (some (.Subscript o i pos')) pos.line X.env = pure false) :
    PS X (.Assign [.Subscript o i pos'] value pos) (sNPut X.prog X.w X.K td ty tv) := by
  refine ⟨fun pins s σ H D I h => ?_⟩
  refine wpAny_Assign_Subscript (thn (hv.run pins s σ H _ I h) fun r s1 ⟨v, H1, I1, rv, q1⟩ => thn (ho.run pins s1 σ H1 _ I1 q1) fun u s2 ⟨x, H2, I2, rx, q2⟩ => thn (hi.run pins s2 σ H2 _ I2 q2) fun iv s3 ⟨y, H3, I3, ry, d, a, k, kvs, ex, ey, hd, hk, hz, q3⟩ => ?_) hs
  subst ex ey
  cases rx
  cases ry
  exact n_set hu I3 hd hk hz rv fun o' s4 nd I4 => ⟨σ, _, I4, q3 o' nd⟩
def tNNew (P : Program) (w : World) (K : PySem.W.Frag) : TE := fun _ H Q => ∀ d, H d = none → ∀ o, ND P w K (upd H d o) d [] → Q (.ref d) (upd H d o)
theorem pe_nnew : PE X (.Dict [] [] pos) (tNNew X.prog X.w X.K) := ⟨fun pins s σ H Q I h =>
  wpAny_Dict_empty ⟨.ref s.heap.objs.size, _, I.laid (a := s.heap.objs.size) (o := NdO X.prog X.w s.heap.objs.size []) (t' := s.toks) (fun _ _ q => Heap.get?_push_of_some _ q) (Nat.le_refl _) (ndO_empty I (Heap.get?_push_size _ rfl)), rfl, h _ (I.hok.fresh (Nat.le_refl _)) _ (nd_empty rfl)⟩⟩
/-- d.get(k, x) -/
def tNGet2 (P : Program) (w : World) (K : PySem.W.Frag) (td ty tx : TE) : TE := fun σ H Q => td σ H fun x H1 => ∃ d kvs, x = .ref d ∧ ND P w K H1 d kvs ∧ ty σ H1 fun y H2 => tx σ H2 fun z H3 => ∃ a k kvs', y = .ref a ∧ ND P w K H3 d kvs' ∧ NK K H3 k a ∧ Q ((valV kvs' k).getD z) H3
theorem pe_nget2 (hu : X.A.units + 64 < cLine) (ho : PE X o td) (he : PE X e ty) (hf : PE X f tx) (m : M2 X o "get" apos e f cpos) : PE X (.Call (.Attribute o "get" apos) [e, f] [] cpos) (tNGet2 X.prog X.w X.K td ty tx) := by
  refine ⟨fun pins s σ H Q I h => ?_⟩
  refine wpAny_Call_method m.base m.few m.line PySem.F.plainAttrs_dict PySem.F.slot_dict_get PySem.F.type_dict_get (thn (ho.run pins s σ H _ I h) fun u s1 ⟨x, H1, I1, rx, d, kvs, ex, hd, q1⟩ => ?_)
  subst ex
  cases rx
  obtain ⟨es, xs, _, _, _, _, _, _, hm⟩ := nd_at I1 hd
  obtain ⟨ob, ens, ep, hob, hex, _⟩ := id hm
  refine ⟨hm.typeIs, fun a' ea => (by cases ea; exact ⟨ob, hob, hex.2.1⟩), ?_⟩
  rw [m.trees]
  refine Calls.callWith_builtin rfl (Calls.evalArgs_plain (Calls.spliced_cons (thn (he.run pins s1 σ H1 _ I1 q1) fun iv s2 ⟨y, H2, I2, ry, q2⟩ =>
    Calls.spliced_cons (thn (hf.run pins s2 σ H2 _ I2 q2) fun fv s3 ⟨z, H3, I3, rz, a, k, kvs', ey, hd', hk, q3⟩ => Calls.spliced_nil ?_))))
  subst ey
  cases ry
  exact n_get2 hu I3 hd' hk rz fun w' s4 I4 rw' => ⟨_, H3, I4, rw', q3⟩
/-- len(d) -/
theorem call_lenN : CallR X (.builtin "len") (fun xs H Q => ∃ d kvs, xs = [V.ref d] ∧ ND X.prog X.w X.K H d kvs ∧ Q (.int kvs.length) H) := by
  intro pins s σ H xs us Q I r h
  obtain ⟨d, kvs, rfl, hd, q⟩ := h
  obtain ⟨u, rfl, ru⟩ := vals1 r
  cases ru
  exact n_len I hd fun t s' I' => ⟨.int kvs.length, H, I', ⟨t, rfl⟩, q⟩
end
/-! ### d.items() -/
def ItiN (P : Program) (w : World) (d : Addr) (o : Obj) (es : List NE) : It :=
  ⟨fun i H => H d = some (.frz o (NdO P w d es)) ∧ i < es.length, fun i H x H' => ∃ T k a v, es[i]? = some (k, a, v) ∧ x = .ref T ∧ H T = none ∧ H' = upd H T (.tup [.ref a, v]), fun i H => H d = some (.frz o (NdO P w d es)) ∧ es.length ≤ i⟩
section
variable {X : Cx} {pins : List (Addr × Obj)} {σ : L2.St} {H : Hp} {s : Shared} {d : Addr} {o : Obj} {es : List NE}
theorem frzN (I : Inv X pins σ H s) (h : H d = some (.frz o (NdO X.prog X.w d es))) :
    s.heap.get? d = some o ∧ o.ExactDict ∧ (d == sysModules) = false ∧ ∃ (xs : List NX) (ens : Array DictEntry) (ep : Nat), o.data = .dict ens ep ∧ es.length ≤ sizeLine ∧ Paired NRel es xs ∧ ens.toList = xs.map (entryOfKey (nestedKind X.prog X.w)) ∧ s.heap.DictRaw d ens ep := by
  obtain ⟨e, ⟨z, hs, xs, r, o', ens, ep, ho, hc, hd, he, hn⟩, _⟩ := (show ObjOk X.prog X.w H s.heap d (.frz o (NdO X.prog X.w d es)) from I.hok d _ h)
  rw [e] at ho
  cases ho
  exact ⟨e, hc, hs, xs, ens, ep, hd, z, r, he, o, e, hc, hd⟩
theorem nr_at {xs : List NX} {i : Nat} {k : NestedKey} {a : Addr} {v : V} (r : Paired NRel es xs) (h : es[i]? = some (k, a, v)) : ∃ u, xs[i]? = some (k, a, u) ∧ RelV v u := by
  induction r generalizing i with
  | nil => simp at h
  | @cons e x es xs q t ih =>
    cases i with
    | zero =>
      have e1 : e = (k, a, v) := Option.some.inj h
      subst e1
      obtain ⟨k', a', u⟩ := x
      obtain ⟨e1, e2, e3⟩ := q
      simp only at e1 e2
      subst e1 e2
      exact ⟨u, rfl, e3⟩
    | succ i => exact ih h
theorem turn_itemsN {P : Program} {w : World} {K : PySem.W.Frag} {ens : Array DictEntry} {ep : Nat} {elts : List Expr} {kk : Nat} {tpos : Pos} (it : Addr) (hod : o.data = .dict ens ep) (hsz : ens.size = es.length) :
    Turn P w K (.Tuple elts kk tpos) (ItiN P w d o es) [it] it (fun i h => ∃ ok ov, IsItemIter h it d i ens.size ep ok ov) where
  mem := by simp
  obj := fun i h st b hb => by
    have e : b = it := by simpa using hb
    subst e
    obtain ⟨ok, ov, e⟩ := st
    exact ⟨_, e, fun v z => nomatch z⟩
  keep := fun i h h' st k => let ⟨ok, ov, e⟩ := st; ⟨ok, ov, k it (by simp) _ e⟩
  item := by
    intro X hP hw hK hc i pins s σ H E I hf st hg
    subst hP hw hK
    obtain ⟨hd, hi⟩ := hg
    obtain ⟨hgd, hx, hs, xs, ens', ep', hdt, hz, r, hes, hm⟩ := frzN I hd
    obtain ⟨rfl, rfl⟩ := dict_ep hod hdt
    obtain ⟨⟨k, a, v⟩, hkv⟩ : ∃ p, es[i]? = some p := ⟨es[i], List.getElem?_eq_getElem hi⟩
    obtain ⟨u, hu, ru⟩ := nr_at r hkv
    obtain ⟨ok, ov, he⟩ := st
    have hlt : it < s.heap.objs.size := Heap.lt_size he
    have hi' : i < ens'.size := by omega
    have hen : ens'[i] = entryOfKey (nestedKind X.prog X.w) (k, a, u) := by
      have q := entry_at hes i
      rw [hu, Array.getElem?_eq_getElem hi'] at q
      exact Option.some.inj q
    refine wpAny_pyNext_items_item_raw he hm hi' fun h' ho hT hz' hk => ?_
    rw [hen] at ho hT
    refine ⟨_, rfl, wpAny_letOwnedTupleGo_items (s := { s with heap := h' }) ho fun h'' he' sb => ?_⟩
    have hT2 : h''.get? s.heap.objs.size = some { cls := .type "tuple", data := .seq #[.ref a, u] } := (sb.2 _ (Nat.ne_of_gt hlt)).trans hT
    have new : ObjOk X.prog X.w (upd H s.heap.objs.size (.tup [.ref a, v])) h'' s.heap.objs.size (.tup [.ref a, v]) :=
      ⟨by show 2 ≤ sizeLine; decide, [.ref a, u], .cons rfl (.cons ru .nil), ⟨_, hT2, rfl, _, rfl⟩⟩
    have I1 : Inv X pins σ (upd H s.heap.objs.size (.tup [.ref a, v])) { s with heap := h'' } :=
      I.turnedNew (t' := s.toks) (ch := [it]) (fun b ob hb e => (sb.2 b (by simpa using hb)).trans (hk b ob (by simpa using hb) e)) hf (Nat.le_refl _) new
    refine ⟨.ref s.heap.objs.size, _, I1, rfl, ⟨_, k, a, v, hkv, rfl, I.hok.fresh (Nat.le_refl _), rfl⟩, ⟨.ref a, u, ?_⟩, fun b hb => ?_⟩
    · exact he'
    · have e : b = it := by simpa using hb
      rw [e, upd_ne (Nat.ne_of_lt hlt)]
      exact (hf it (by simp)).1
  done := by
    intro X hP hw hK hc i pins s σ H E I hf st hg
    subst hP hw hK
    obtain ⟨hd, hi⟩ := hg
    obtain ⟨f0, f1, f2, f3, f4, f5⟩ := hf it (by simp)
    obtain ⟨hgd, hx, hs, xs, ens', ep', hdt, hz, r, hes, hm⟩ := frzN I hd
    obtain ⟨rfl, rfl⟩ := dict_ep hod hdt
    obtain ⟨ok, ov, he⟩ := st
    exact wpAny_pyNext_items_end_raw (I.ok.hd hc) he hm (by omega) fun h' eb => ⟨rfl, I.turned (t' := s.toks) (fun b ob hb e => eb b ob hb e) f0 f1 f3 f4 f5⟩
  self := fun A i s Q E st h => let ⟨_, _, e⟩ := st; PySem.W.kcp_self e h
end
section
variable {X : Cx} {tg e : Expr} {td : TE} {apos cpos : Pos}
def iItemsN (P : Program) (w : World) (td : TE) : TI := fun σ H R => td σ H fun x H1 => ∃ d o es, x = .ref d ∧ H1 d = some (.frz o (NdO P w d es)) ∧ R (ItiN P w d o es) H1
theorem pi_itemsN {elts : List Expr} {kk : Nat} {tpos : Pos} (he : PE X e td) (hbase : attributeBase e "items" X.env (eval e X.env) = eval e X.env := by rfl) (hline : (apos.endLine == cpos.line) = true := by rfl) :
    PI X (.Tuple elts kk tpos) (.Call (.Attribute e "items" apos) [] [] cpos) (iItemsN X.prog X.w td) := by
  refine ⟨fun pins s σ H R I h => ?_⟩
  refine wpAny_Call_method (T := "dict") (id := "dict.items") hbase rfl hline F.plainAttrs_dict F.slot_dict_items F.type_dict_items (thn (he.run pins s σ H _ I h) fun u s1 ⟨x, H1, I1, rx, d, o, es, ex, hd, q⟩ => ?_)
  subst ex
  cases rx
  obtain ⟨hgd, hx, hs, xs, ens, ep, hdt, hz, r, hes, hm⟩ := frzN I1 hd
  have hsz : ens.size = es.length := by rw [size_of_entries hes, ← Paired.length r]
  refine ⟨hm.typeIs, fun a' ea => (by cases ea; exact ⟨o, hgd, hx.2.1⟩), ?_⟩
  have I2 : Inv X pins σ H1 { s1 with heap := s1.heap.push { cls := .type "dict_items", data := .fields #[.ref d] } } := I1.kept (t' := s1.toks) fun b ob q => Heap.get?_push_of_some _ q
  have hm2 : (s1.heap.push { cls := .type "dict_items", data := .fields #[.ref d] }).DictRaw d ens ep := hm.at fun ob q => Heap.get?_push_of_some _ q
  have fin : wpAny (model X.prog X.w) X.A (pyIter (.ref s1.heap.objs.size)) (PIE X pins σ (.Tuple elts kk tpos) R) X.xe { s1 with heap := s1.heap.push { cls := .type "dict_items", data := .fields #[.ref d] } } := by
    refine wpAny_pyIter_items_raw (d := d) ⟨_, Heap.get?_push_size _ rfl, rfl, rfl⟩ hm2 (pi_one (tk := s1.toks) I2 _ (turn_itemsN _ hdt hsz) ⟨.none, .none, ?_⟩ q)
    exact Heap.get?_push_size _ rfl
  show wpAny _ _ (callWith cpos (.builtin "dict.items") [.ref d] [] []) _ X.xe s1
  refine method_meetsIn F.slot_dict_items F.entry_dict_items rfl (PySem.evalArgs_none ⟨rfl, hm.typeIs, F.args_dict_items_1 _, _, meets_dict_items_raw d hs, ?_⟩)
  exact ⟨⟨ens, ep, hm⟩, fin⟩
end
end Mk
namespace Mk
open PySem PySem.Spec PyProof.Rows L2
/-! ### {k: v for .. in ..}, the keys tuples -/
/-- what a turn asks behind key and value -/
def putN (P : Program) (w : World) (K : PySem.W.Frag) (D : Addr) (y z : V) (H5 : Hp) (Nx : Hp → Prop) : Prop := ∃ a k kvs, y = .ref a ∧ ND P w K H5 D kvs ∧ NK K H5 k a ∧ kvs.length < sizeLine ∧ ∀ o, ND P w K (upd H5 D o) D (putK kvs k z) → Nx (upd H5 D o)
def tDcN (P : Program) (w : World) (K : PySem.W.Frag) (wi : TI) (g : TG) (tk tv : TE) (vs : List Nat) : TE := fun σ H Q => wi σ H fun J H1 => ∀ D o, H1 D = none → ND P w K (upd H1 D o) D [] → ∃ W : Nat → Nat → Hp → Prop, (∃ m, W 0 m (upd H1 D o)) ∧ ∀ i m H, W i m H →
  (J.stop i H ∧ Q (.ref D) H) ∨ (J.go i H ∧ ∃ Nx : Hp → Prop, (∀ H', Nx H' → ∃ m', m' < m ∧ W (i + 1) m' H') ∧ ∀ x H', J.yld i H x H' → g x (wipe σ vs) H' fun σ2 H2 => wipe σ2 vs = wipe σ vs ∧ tk σ2 H2 fun y H4 => tv σ2 H4 fun z H5 => putN P w K D y z H5 Nx)
section
variable {X : Cx}
abbrev BlkPE (X : Cx) (scope : Scope) (e : Expr) (t : TE) : Prop := ∀ (s : Shared) (H : Hp) (C : Addr) (cl : List (Str × Addr)) (fp : List Addr), PE (X.blk s H scope (compEnvC scope cl C X.env) fp) e t
abbrev BlkPG (X : Cx) (scope : Scope) (e : Expr) (t : TG) : Prop := ∀ (s : Shared) (H : Hp) (C : Addr) (cl : List (Str × Addr)) (fp : List Addr), PG (X.blk s H scope (compEnvC scope cl C X.env) fp) e t
theorem pe_dcN {kx vx tg iter : Expr} {scope : Scope} {own : List (Str × Nat)} {pos : Pos} {wi : TI} {g : TG} {tk tv : TE} (hu : X.A.units + 64 < cLine) (hc : X.calm = true) (hN : X.N.Nodup) (hi : PI X tg iter wi) (ok : BlkOk X.N X.env.scope scope own)
    (hg : BlkPG X scope tg g) (hk : BlkPE X scope kx tk) (he : BlkPE X scope vx tv) (hs : ∀ x, foldedSetIterable iter X.env x = pure x := by intro _; rfl) :
    PE X (.DictComp kx vx [⟨tg, iter, [], 0⟩] scope pos) (tDcN X.prog X.w X.K wi g tk tv (own.map (·.2))) := by
  refine ⟨fun pins s σ H Q I h => ?_⟩
  rw [arm_eval_DictComp]
  have fr : ∀ y ∈ scope.names, y.2 = .free → ∃ c, X.env.cells.lookup y.1 = some c := fun y hy e => (ok.free y hy e).elim (fun k => I.ok.has _ (.inl k)) fun k => I.ok.has _ (.inr k)
  refine wpAny_comprehension_free (use := none) rfl hs (closure_ok fr) ok.kind (fun y hy e => by rw [ok.uniq y hy, e]) (thn (hi.run pins s σ H _ I h) fun xv s1 hx => thn hx fun itv s2 h2 => ?_)
  obtain ⟨it, fp, tn, J, H2, rfl, I2, T, st2, f2, q⟩ := h2
  refine wpAny_newObj_type (newEnv_comp ?_)
  have I3 : Inv X pins σ (upd H2 s2.heap.objs.size (NdO X.prog X.w s2.heap.objs.size [])) { s2 with heap := s2.heap.push { cls := .type "dict", data := .dict #[] } } :=
    I2.laid (t' := s2.toks) (fun _ _ e => Heap.get?_push_of_some _ e) (Nat.le_refl _) (ndO_empty I2 (Heap.get?_push_size _ rfl))
  have hDn : H2 s2.heap.objs.size = none := I2.hok.fresh (Nat.le_refl _)
  obtain ⟨W, ⟨m0, w0⟩, turn⟩ := q s2.heap.objs.size (NdO X.prog X.w s2.heap.objs.size []) hDn (nd_empty rfl)
  generalize hD : s2.heap.objs.size = D at I3 hDn w0 turn ⊢
  generalize hs3 : ({ s2 with heap := s2.heap.push { cls := .type "dict", data := .dict #[] } } : Shared) = s3 at I3
  have h3 : s3.heap = s2.heap.push { cls := .type "dict", data := .dict #[] } := by rw [← hs3]
  generalize hH3 : upd H2 D (NdO X.prog X.w D []) = H3 at I3 w0
  have f3 : ∀ b ∈ fp, FpOk X pins H3 b ∧ b < s3.heap.objs.size := fun b hb => by
    obtain ⟨ob, e, _⟩ := T.obj _ _ st2 b hb
    have lt := Heap.lt_size e
    refine ⟨⟨?_, (f2 b hb).2⟩, by rw [h3, Heap.size_push]; exact Nat.lt_succ_of_lt lt⟩
    rw [← hH3, upd_ne (by rw [← hD]; exact Nat.ne_of_lt lt)]
    exact (f2 b hb).1
  have st3 : tn 0 s3.heap := T.keep _ _ _ st2 fun b _ ob e => by rw [h3]; exact Heap.get?_push_of_some _ e
  have I4 := block_start I3 ok hN f3
  have pg := hg s3 H3 s3.heap.objs.size (cellsFrom (s3.heap.objs.size + 1) scope.names (cloFrom X.env.cells scope.names [])) fp
  have pk := hk s3 H3 s3.heap.objs.size (cellsFrom (s3.heap.objs.size + 1) scope.names (cloFrom X.env.cells scope.names [])) fp
  have pv := he s3 H3 s3.heap.objs.size (cellsFrom (s3.heap.objs.size + 1) scope.names (cloFrom X.env.cells scope.names [])) fp
  show codeAny _ _ (.compStart (.DictComp kx vx [⟨tg, iter, [], 0⟩] scope pos) 0 (.ref it) (.ref D) (compEnvC scope (cellsFrom (s3.heap.objs.size + 1) scope.names (cloFrom X.env.cells scope.names [])) s3.heap.objs.size X.env)) (compPost (model X.prog X.w) X.A X.xe none (EP X pins σ Q) (.ref D) s3.heap.objs.size) { s3 with heap := pushCells (s3.heap.push { cls := .type "dict", data := .dict #[] }) scope.names }
  generalize hce : compEnvC scope (cellsFrom (s3.heap.objs.size + 1) scope.names (cloFrom X.env.cells scope.names [])) s3.heap.objs.size X.env = ce at I4 pg pk pv ⊢
  have cL : ce.locals = s3.heap.objs.size := by subst hce; rfl
  have st4 : tn 0 (pushCells (s3.heap.push { cls := .type "dict", data := .dict #[] }) scope.names) := T.keep _ _ _ st3 fun b _ ob e => pushCells_keeps _ _ _ _ (Heap.get?_push_of_some _ e)
  have post : ∀ (s' : Shared) (m : Str → Option Value) (H' : Hp), Inv X pins σ H' s' → Q (.ref D) H' → s'.heap.Ns s3.heap.objs.size m → FpOk X pins H' s3.heap.objs.size → compPost (model X.prog X.w) X.A X.xe none (EP X pins σ Q) (.ref D) s3.heap.objs.size (.ok .next) s' := fun s' m H' I' q hn f => ⟨m, hn, fun h'' sb => by
    obtain ⟨f0, f1, f2, f3, f4, f5⟩ := f
    exact ⟨.ref D, H', I'.turned (t' := s'.toks) (fun b ob hb e => (sb.2 b hb).trans e) f0 f1 f3 f4 f5, rfl, q⟩⟩
  have stat : ∀ {σ' : L2.St} {H' : Hp} {s' : Shared}, Inv (X.blk s3 H3 scope ce fp) [] σ' H' s' → (∀ b ∈ fp, H' b = none) → ∀ b ∈ fp, FpOk (X.blk s3 H3 scope ce fp) [] H' b := fun {σ' H' s'} I' hn b hb =>
    ⟨hn b hb, (I'.ok.exf b hb).1, I'.ok.exfs b hb, .inl hb, fun x c e => (I'.ok.exf b hb).2 x c e, fun p hp => absurd (show p ∈ ([] : List (Addr × Obj)) ++ [] from hp) (by simp)⟩
  have loop : codeAny (model X.prog X.w) X.A (.compLoop (.DictComp kx vx [⟨tg, iter, [], 0⟩] scope pos) 0 (.ref it) (.ref D) ce) (compPost (model X.prog X.w) X.A X.xe none (EP X pins σ Q) (.ref D) s3.heap.objs.size) { s3 with heap := pushCells (s3.heap.push { cls := .type "dict", data := .dict #[] }) scope.names } := by
    refine compLoop_anyD (fun n s' => ∃ i H', Inv (X.blk s3 H3 scope ce fp) [] (wipe σ (own.map (·.2))) H' s' ∧ tn i s'.heap ∧ (∀ b ∈ fp, H' b = none) ∧ W i n H') ?_ m0 ⟨0, H3, I4, st4, fun b hb => (f3 b hb).1.1, w0⟩
    rintro n s5 ⟨i, H5, I5, st5, n5, w5⟩
    rcases turn i n H5 w5 with ⟨stop, qq⟩ | ⟨go, Nx, hNx, step⟩
    · refine thnF (T.done (X.blk s3 H3 scope ce fp) rfl rfl rfl hc i [] s5 _ H5 (fun _ _ => False) I5 (stat I5 n5) st5 stop) fun r s6 ⟨hr, I6⟩ => ?_
      subst hr
      have nC : H5 s3.heap.objs.size = none := by rw [← cL]; exact I6.free
      obtain ⟨m, hn, _⟩ := I6.loc
      have hn : s6.heap.Ns ce.locals m := hn
      rw [cL] at hn
      exact post s6 m H5 (I3.call' (ch := fp) I6.os I6.base I6.hok I6.bare fun b hb => ⟨(f3 b hb).1.2.2.2.1, (f3 b hb).1.2.1, (f3 b hb).1.2.2.2.2.1, (f3 b hb).1.2.2.2.2.2⟩) qq hn (I3.fpOk (Nat.le_refl _) nC)
    · refine thnF (T.item (X.blk s3 H3 scope ce fp) rfl rfl rfl hc i [] s5 _ H5 (fun _ _ => False) I5 (stat I5 n5) st5 go) fun r s6 ⟨u, hr, h6⟩ => ?_
      subst hr
      refine thnF h6 fun _ s7 ⟨x, H7, I7, r7, y7, st7, n7⟩ => ?_
      have I7' := I7.pinned (stat I7 n7) (T.obj _ _ st7)
      refine thnF (pg.run _ s7 _ H7 x u _ I7' r7 (step x H7 y7)) fun _ s8 ⟨σ8, H8, I8, hw8, q8⟩ => ?_
      refine thnF ((pts_nil (X := X.blk s3 H3 scope ce fp)).run _ s8 σ8 H8 _ I8 (show tYes σ8 H8 (fun b H9 => b = true ∧ tk σ8 H9 fun y H4 => tv σ8 H4 fun z H5 => putN X.prog X.w X.K D y z H5 Nx) from ⟨rfl, q8⟩)) fun b s9 ⟨H9, I9, hb, q9⟩ => ?_
      subst hb
      simp only [if_true]
      refine thnF (pk.run _ s9 σ8 H9 _ I9 q9) fun z s10 ⟨yk, H10, I10, r10, q10⟩ => ?_
      refine thnF (pv.run _ s10 σ8 H10 _ I10 q10) fun z2 s11 ⟨yv, H11, I11, r11, a, k, kvs, ek, nd11, nk11, hz11, nx⟩ => ?_
      subst ek
      cases r10
      refine n_dictSet (X := X.blk s3 H3 scope ce fp) hu I11 nd11 nk11 hz11 r11 fun o' s12 nd12 I12 => ?_
      obtain ⟨m', hm, w'⟩ := hNx _ (nx o' nd12)
      have pin' : ∀ b ∈ fp, ∀ ob, s7.heap.get? b = some ob → s12.heap.get? b = some ob ∧ (upd H11 D o') b = none := fun b hb ob e =>
        let z := I12.pin (b, ob) (List.mem_append_right _ (List.mem_append_right _ (mem_pinsAt hb e)))
        ⟨z.1, z.2.1⟩
      refine ⟨m', hm, i + 1, _, (I12.unpinned (pins := [])).weak (by rw [← hw8, wipe_length]) (fun j v e => by rw [← hw8] at e; exact (wipe_some e).1), T.keep _ _ _ st7 fun b hb ob e => (pin' b hb ob e).1, fun b hb => ?_, w'⟩
      obtain ⟨ob, e, _⟩ := T.obj _ _ st7 b hb
      exact (pin' b hb ob e).2
  exact codeAny_compStart_dict loop (T.self X.A 0 _ _ _ st4 loop)
end
end Mk
namespace Mk
open PySem PySem.Spec PyProof.Rows L2
/-! ### super().__init__(..) in a method that closes over __class__ -/
/-- what the text has written: f the running def (cell cc of the class D, code cda), f2 the def that super finds -/
structure SupK (P : Program) (K : PySem.W.Frag) (mg : Str → Option Value) (D f f2 cc cda : Addr) (slf : Str) : Prop where
  fn : ∃ oc od fd osl ar, K.lookup f = some ⟨oc, od, .func fd, osl⟩ ∧ (fd.params.posonlyargs ++ fd.params.args).head? = some ar ∧ ar.arg = slf
  code : ∃ cl cd vs sl file tf, K.lookup cda = some ⟨cl, cd, .fields vs, sl⟩ ∧ vs[2]? = some (.str file tf) ∧ ((P.main.file : Str) == file) = true
  cell : ∃ cl cd sl, K.lookup cc = some ⟨cl, cd, .cell (some (.ref D)), sl⟩
  cls : ∃ cd, PySem.W.clsIn K D = some cd
  sub : PySem.W.mroIn K D (.ref D) = some true
  free : mg "super" = none
  top : (P.main.scope.names.lookup ("super" : Str)).isSome = false
  opq : PySem.W.nsIn K cStatics "thirdparty.any" = some none
  sup : PySem.W.ks_superIn K D D "__init__" = some (some (.ref f2))
  ty : PySem.W.typeIn K (.ref f2) = some (.type "function")
  isfn : PySem.W.fnIn K f2 = true
/-- a statement that is run at the def's own code -/
structure PSa (X : Cx) (body : List Stmt) (st : Stmt) (t : TS) : Prop where
  run : ∀ (pins : List (Addr × Obj)) (s : Shared) (σ : L2.St) (H : Hp) (D : Ends), Inv X pins σ H s → t D σ H → _root_.PySem.wpAt (model X.prog X.w) X.A (.func body X.env) (exec st X.env) (SP X pins D) X.xe s
structure PSsa (X : Cx) (body : List Stmt) (sts : List Stmt) (t : TS) : Prop where
  run : ∀ (pins : List (Addr × Obj)) (s : Shared) (σ : L2.St) (H : Hp) (D : Ends), Inv X pins σ H s → t D σ H → _root_.PySem.wpAt (model X.prog X.w) X.A (.func body X.env) (execs sts X.env) (SP X pins D) X.xe s
section
variable {X : Cx} {body : List Stmt} {st : Stmt} {rest : List Stmt} {t u : TS}
theorem psa_of (h : PS X st t) : PSa X body st t := ⟨fun pins s σ H D I q => _root_.PySem.wpAt_of_wpAny (h.run pins s σ H D I q)⟩
theorem pssa_of (h : PSs X rest t) : PSsa X body rest t := ⟨fun pins s σ H D I q => _root_.PySem.wpAt_of_wpAny (h.run pins s σ H D I q)⟩
theorem pssa_cons (h1 : PSa X body st t) (h2 : PSsa X body rest u) : PSsa X body (st :: rest) (tSeq t u) := by
  refine ⟨fun pins s σ H D I h => ?_⟩
  refine PySem.ks_wpAt_execs_cons (_root_.PySem.wpAt_mono (h1.run pins s σ H { D with nx := u D } I h) (fun f s1 q => ?_) fun _ _ x => x)
  cases f with
  | next =>
    obtain ⟨σ', H', I', q⟩ := q
    exact h2.run pins s1 σ' H' D I' q
  | ret v => exact q
  | brk => exact q
  | cont => exact q
end
def tSuper (D : Addr) (sp : Sp) (t : TA) : TS := fun E σ H => ∃ x dx fs, σ[0]? = some (some (.ref x)) ∧ H x = some (.ins D dx fs) ∧ t σ H fun vs H1 => sp (.ref x :: vs) H1 (fun _ H2 => E.nx σ H2) E0
section
variable {X : Cx} {body : List Stmt} {D f f2 cc cda : Addr} {slf : Str} {fd2 : FuncData} {ps : List Str} {k : Nat} {sp : Sp} {e : Expr} {es : List Expr} {t : TA} {p0 p1 ap pos pos2 : Pos}
theorem ps_super (S : SupK X.prog X.K X.mg D f f2 cc cda slf) (F : FnOk X.prog X.w X.K X.mg X.base CX0 k f2 fd2 ps sp) (hr : Room k X.A) (hb : Binds X.K fd2 ps [])
    (hN : X.N[0]? = some slf) (hl : X.env.kindOf slf = some .local) (hks : X.env.kindOf "super" = some .globalImplicit) (hkc : X.env.kindOf "__class__" = some .free) (hfu : X.env.func = some f) (hco : X.env.code = .ref cda) (hcl : X.env.cells.lookup ("__class__" : Str) = some cc)
    (ha : PA X (e :: es) t) (hst : starEach (e :: es) X.env = (false, eval e X.env) :: starEach es X.env := by rfl) (hpl : (backTo pos (starEach es X.env)).any (·.1) = false := by rfl)
    (hev : eval (.Call (.Attribute (.Call (.Name "super" p0) [] [] p1) "__init__" ap) (e :: es) [] pos) X.env = (do
      let ov ← attributeBase (.Call (.Name "super" p0) [] [] p1) "__init__" X.env (eval (.Call (.Name "super" p0) [] [] p1) X.env)
      standAt ap.atName
      let (f, first) ← holding [ov] (getMethod ov "__init__" (pure false))
      callWith pos f first (backTo pos (starEach (e :: es) X.env)) []) := by rfl)
    (hin : interactive X.env = false := by rfl) (hsw : swapsWith (.Call (.Attribute (.Call (.Name "super" p0) [] [] p1) "__init__" ap) (e :: es) [] pos) none pos2.line X.env = pure false := by rfl) :
    PSa X body (.Expr (.Call (.Attribute (.Call (.Name "super" p0) [] [] p1) "__init__" ap) (e :: es) [] pos) pos2) (tSuper D sp t) := by
  refine ⟨fun pins s σ H En I h => ?_⟩
  obtain ⟨x, dx, fs, hx, hi, q⟩ := h
  obtain ⟨oc, od, fd, osl, ar, lf, hp, har⟩ := S.fn
  obtain ⟨kl, kd', vs, ksl, file, tf, lc, hvs, hfile⟩ := S.code
  obtain ⟨cl, cd, csl, lcell⟩ := S.cell
  obtain ⟨cdD, hD⟩ := S.cls
  have XK := I.kIn
  obtain ⟨oD, hD1, hD2⟩ : ∃ oD, s.heap.get? D = some oD ∧ oD.data = .cls cdD := by
    unfold PySem.W.clsIn at hD
    split at hD
    · rename_i c d cd' sl ho
      cases hD
      exact ⟨_, XK _ _ ho, rfl⟩
    · cases hD
  obtain ⟨mA, J, _⟩ := ins_get I.hok hi
  obtain ⟨odx, J, _⟩ := J.look
  obtain ⟨m, hn, hlk⟩ := id I.loc
  have hvs0 : Vis X.env.scope slf := .inl hl
  obtain ⟨u, ru, lk⟩ := hlk 0 slf (.ref x) hN hx hvs0
  obtain rfl : u = Value.ref x := ru
  have hself : m slf = some (.ref x) := by
    rcases lk with ⟨_, e⟩ | ⟨k', _⟩
    · exact e
    · rcases k' with k' | k' <;> rw [hl] at k' <;> cases k'
  obtain ⟨mb, hmb, hbb⟩ := I.mod.blt
  refine PySem.ks_wpAt_Expr_any (PySem.ks_wpAt_MethodCall (pl := pure false) (PySem.ks_wpAt_super_base (env := X.env) hks hkc (by decide) hfu (XK _ _ lf) rfl hp hco (XK _ _ lc) rfl hvs hfile S.top ?_) hev) hin hsw
  refine PySem.W.ks_loadName_global I.ok.kind hks (Calls.loadGlobal_builtin (env := X.env) (mg := X.mg) (by rw [I.ok.glob]; exact I.mod.glob.keeps I.bk) S.free (by rw [I.ok.blt]; exact hmb.keeps I.bk) ((hbb "super" (by decide)).trans (by decide +kernel)) ⟨rfl, ?_⟩)
  refine wpAny_loadName_free I.ok.kind hkc hcl ⟨_, XK _ _ lcell, rfl⟩ ?_
  rw [har]
  refine wpAny_loadName_local I.ok.kind hl hn hself ?_
  refine PySem.ks_wpAny_isType_cls hD1 hD2 ⟨rfl, ?_⟩
  have nc : ∀ c, (_ : Obj).data ≠ .cls c := fun c e => by
    have := J.no
    unfold PySem.W.notCls at this
    rw [e] at this
    exact Bool.noConfusion this
  obtain ⟨hh, g, d, tt, os⟩ := s
  refine PySem.ks_wpAny_call_super hD1 hD2 J.at_ J.cls nc (PySem.W.looks_mroIn XK S.sub) (fun h' e1 k1 => ?_)
  -- the super object; its method
  have I1 : Inv X pins σ H ⟨h', g, d, tt, os⟩ := I.kept (h' := h') (t' := tt) k1
  have XK1 := I1.kIn
  have hsup := S.sup
  unfold PySem.W.ks_superIn at hsup
  rw [hD] at hsup
  obtain ⟨of, hof, hofc⟩ : ∃ of, h'.get? f2 = some of ∧ of.cls = .type "function" := by
    have ht' : (X.K.lookup f2).map (·.cls) = some (.type "function") := S.ty
    cases z : X.K.lookup f2 with
    | none => rw [z] at ht'; cases ht'
    | some of => rw [z] at ht'; exact ⟨of, XK1 _ _ z, Option.some.inj ht'⟩
  refine PySem.ks_wpAny_getMethod_super e1 (PySem.W.looks_opaque XK1 S.opq) (l₀ := cdD.mro) (fun A Q E s k q => wpAny_bind ((PySem.W.looks_clsIn XK1 hD) A _ E s k (wpAny_pure q))) rfl XK1 hsup hof hofc (PySem.W.ks_ne XK J hD) (by decide) ?_
  -- the call
  have k2 : ∀ b ob, h'.get? b = some ob → (h'.push (PySem.W.methodObj (.ref f2) (.ref x))).get? b = some ob := fun b ob e => Heap.get?_push_of_some _ e
  have I2 : Inv X pins σ H ⟨h'.push (PySem.W.methodObj (.ref f2) (.ref x)), g, d, tt + 1, os⟩ := I1.kept (t' := tt + 1) k2
  have hq : (h'.push (PySem.W.methodObj (.ref f2) (.ref x))).get? h'.objs.size = some (PySem.W.methodObj (.ref f2) (.ref x)) := Heap.get?_push_size _ rfl
  have fresh : H h'.objs.size = none := I1.hok.fresh (Nat.le_refl _)
  have fp := I1.fpOk (Nat.le_refl _) fresh
  obtain ⟨p1', p2', p3', p4', p5', p6'⟩ := fp
  have I3 : Inv X ((h'.objs.size, PySem.W.methodObj (.ref f2) (.ref x)) :: pins) σ H ⟨h'.push (PySem.W.methodObj (.ref f2) (.ref x)), g, d, tt + 1, os⟩ := by
    refine I2.pins_of fun p hp => ?_
    rcases List.mem_cons.mp hp with rfl | hp
    · exact ⟨hq, fresh, p2', p3', fun v e => nomatch e⟩
    · exact I2.pin p (List.mem_append_right _ hp)
  refine PySem.W.callWith_of (P := fun h => h.get? h'.objs.size = some (PySem.W.methodObj (.ref f2) (.ref x)) ∧ X.K.In h) (by rw [hst]; show ((false || (backTo pos (starEach es X.env)).any (·.1)) || false) = false; rw [hpl]; rfl) (fun h z => PySem.W.keeps_M S.isfn h z) ?_
  rw [hst]
  have hrun := ha.run pos _ _ σ H _ I3 q
  rw [hst] at hrun
  refine Calls.evalArgs_plain (thn hrun fun us s2 ⟨vs2, H2, I4, r, q2⟩ => ?_)
  have hpin := (I4.pin (h'.objs.size, PySem.W.methodObj (.ref f2) (.ref x)) (List.mem_append_right _ List.mem_cons_self)).1
  refine ⟨⟨hpin, I4.kIn⟩, ?_⟩
  have r2 : Vals (V.ref x :: vs2) (Value.ref x :: us) := .cons rfl r
  have hl2 : (Value.ref x :: us).length = ps.length := by rw [← r2.length]; exact F.len _ _ _ _ q2
  have I5 : Inv X pins σ H2 s2 := I4.pins_of fun p hp => I4.pin p (List.mem_append_right _ (List.mem_cons_of_mem _ hp))
  have hbind : BindsTo s2 fd2 ⟨.ref x :: us, []⟩ (ps.zip (.ref x :: us)) := by
    have z := hb s2 (.ref x :: us) I4.kIn (by simpa using hl2)
    simpa using z
  refine wpAny_call (PySem.W.method_call hpin (codeAny_mono (F.run X.A X.stack s2 H2 ⟨.ref x :: us, []⟩ (.ref x :: us) (.ref x :: vs2) _ E0 hr I5.env0 hbind r2 q2) fun r s' hq => ?_))
  cases r with
  | error e => exact hq.elim
  | ok fl =>
    cases fl with
    | ret w' =>
      obtain ⟨z, H', I', _, q3⟩ := I5.after hq
      exact ⟨σ, H', I', q3⟩
    | next => exact False.elim hq
    | brk => exact False.elim hq
    | cont => exact False.elim hq
end
end Mk
namespace Mk
open PySem PySem.Spec PyProof.Rows L2
/-! ### a def that closes over __class__ -/
abbrev cKey : Str := "__class__"
abbrev envK (qual : Str) (scope : Scope) (L f : Addr) (cd : Value) (cc : Addr) : Env := PySem.W.envX qual scope L f cd (cellsFrom (L + 1) scope.names [(cKey, cc)])
structure KScope (N P : List Str) (sc : Scope) : Prop where
  kind : sc.kind = .function
  co : sc.isCoroutine = false
  gen : sc.isGenerator = false
  nd : N.Nodup
  pre : N.take P.length = P
  par : ∀ x ∈ P, sc.names.lookup x = some .local ∨ sc.names.lookup x = some .cell
  free : ∀ y ∈ sc.names, y.2 = .free → y.1 = cKey
  out : cKey ∉ N
/-- its context -/
def cxK (P : Program) (w : World) (K : PySem.W.Frag) (mg : Str → Option Value) (base : Heap) (N : List Str) (qual : Str) (scope : Scope) (f : Addr) (cd : Value) (cc : Addr) (A : Around) (outer : List Env) (s : Shared) (H : Hp) : Cx where
  prog := P
  w := w
  K := K
  mg := mg
  base := base
  A := A.deeper (envK qual scope s.heap.objs.size f cd cc)
  N := N
  s_0 := s
  H_0 := H
  env := envK qual scope s.heap.objs.size f cd cc
  outer := outer
  stack := envK qual scope s.heap.objs.size f cd cc :: outer
  ex := []
  calm := true
  fn := fun x => !(x == cKey)
  pn := []
  xe := fun e s' => wpAny (model P w) (A.deeper (envK qual scope s.heap.objs.size f cd cc)) (leaving (envK qual scope s.heap.objs.size f cd cc) e) (fun _ _ => False) (fun _ _ => False) s'
section
variable {P : Program} {w : World} {K : PySem.W.Frag} {mg : Str → Option Value} {base : Heap} {N ps : List Str} {qual : Str} {scope : Scope} {f cc : Addr} {cd : Value} {A : Around} {outer : List Env} {s : Shared} {H : Hp}
/-- the frame laid, nothing bound -/
theorem inv_bare (S : KScope N ps scope) (hd : A.handled = none) (e0 : Env0 P w K mg base A outer s H) {cl : Value} {cdd : Option Addr} {cv : Value} {csl : Array (Option Value)} (lc : K.lookup cc = some ⟨cl, cdd, .cell (some cv), csl⟩) :
    Inv (cxK P w K mg base N qual scope f cd cc A outer s H) [] (List.replicate N.length none) H { s with heap := pushCells (s.heap.push { cls := .type "frame", data := .dict #[] }) scope.names } := by
  have KX : K.In base := e0.mod.kin
  have hcb : base.get? cc = some ⟨cl, cdd, .cell (some cv), csl⟩ := KX _ _ lc
  have hcs := e0.bs cc _ hcb
  have hclt : cc < s.heap.objs.size := Heap.lt_size hcs.1
  have kp : ∀ b o, s.heap.get? b = some o → (pushCells (s.heap.push { cls := .type "frame", data := .dict #[] }) scope.names).get? b = some o := fun b o e => pushCells_keeps _ _ _ _ (Heap.get?_push_of_some _ e)
  have noA : ∀ b : Addr, b ∉ ([] : List Addr) := fun b z => absurd z (by simp)
  have mem : ∀ {y : Str} {c : Addr}, (cellsFrom (s.heap.objs.size + 1) scope.names [(cKey, cc)]).lookup y = some c → (y = cKey ∧ c = cc) ∨ (y ≠ cKey ∧ s.heap.objs.size + 1 ≤ c ∧ CellAt (pushCells (s.heap.push { cls := .type "frame", data := .dict #[] }) scope.names) c none) ∨ (s.heap.objs.size + 1 ≤ c ∧ CellAt (pushCells (s.heap.push { cls := .type "frame", data := .dict #[] }) scope.names) c none) := fun {y c} e => by
    rw [← Heap.size_push s.heap { cls := .type "frame", data := .dict #[] }] at e
    rcases cells_mem (PySem.mem_of_lookup e) with hm | ⟨_, h2, h3⟩
    · rcases List.mem_cons.mp hm with e | hm
      · cases e; exact .inl ⟨rfl, rfl⟩
      · cases hm
    · rw [Heap.size_push] at h2
      exact .inr (.inr ⟨h2, h3⟩)
  have mem' : ∀ {y : Str} {c : Addr}, (cellsFrom (s.heap.objs.size + 1) scope.names [(cKey, cc)]).lookup y = some c → (y = cKey ∧ c = cc) ∨ (s.heap.objs.size + 1 ≤ c ∧ CellAt (pushCells (s.heap.push { cls := .type "frame", data := .dict #[] }) scope.names) c none) := fun e => by
    rcases mem e with z | ⟨_, z⟩ | z
    · exact .inl z
    · exact .inr z
    · exact .inr z
  have ok : (cxK P w K mg base N qual scope f cd cc A outer s H).Ok := by
    refine ⟨e0.mod, S.kind, rfl, rfl, Nat.le_refl _, fun y z c e1 e2 => ?_, fun y hy => ?_, fun y c z e => ?_, fun _ => hd, Around.frames_deeper e0.frames, .inr ⟨rfl, rfl⟩, fun b z => absurd z (noA b), e0.bs, e0.bsz, fun b _ _ => noA b, fun b z => absurd z (noA b), e0.funs, e0.frf⟩
    · have e1 : (cellsFrom (s.heap.objs.size + 1) scope.names [(cKey, cc)]).lookup y = some c := e1
      have e2 : (cellsFrom (s.heap.objs.size + 1) scope.names [(cKey, cc)]).lookup z = some c := e2
      rw [← Heap.size_push s.heap { cls := .type "frame", data := .dict #[] }] at e1 e2
      refine cells_inj (h := s.heap.push { cls := .type "frame", data := .dict #[] }) (fun p hp => ?_) (fun y z c a b => ?_) (PySem.mem_of_lookup e1) (PySem.mem_of_lookup e2)
      · rw [List.mem_singleton.mp hp, Heap.size_push]
        exact Nat.lt_succ_of_lt hclt
      · rw [(Prod.mk.inj (List.mem_singleton.mp a)).1, (Prod.mk.inj (List.mem_singleton.mp b)).1]
    · show ∃ c, (cellsFrom (s.heap.objs.size + 1) scope.names [(cKey, cc)]).lookup y = some c
      have hy : scope.names.lookup y = some .cell ∨ scope.names.lookup y = some .free := hy
      rcases hy with hy | hy
      · obtain ⟨c, hm⟩ := cells_has (n := s.heap.objs.size + 1) (acc := [(cKey, cc)]) (PySem.mem_of_lookup hy)
        exact mem_lookup hm
      · have e := S.free _ (PySem.mem_of_lookup hy) rfl
        have e : y = cKey := e
        subst e
        exact mem_lookup (cells_acc (names := scope.names) (n := s.heap.objs.size + 1) (List.mem_singleton.mpr rfl))
    · have z : (!(y == cKey)) = true := z
      rcases mem' e with ⟨e1, _⟩ | ⟨h2, _⟩
      · rw [e1] at z
        simp at z
      · exact Nat.le_of_succ_le h2
  refine ⟨ok, rfl, e0.bare, Un.kept kp, ⟨fun _ => none, ?_, fun i y v e1 e2 e3 => ?_⟩, fun y c e => ?_, e0.hok.fresh (Nat.le_refl _), fun y c e => ?_, fun p hp => absurd (show p ∈ ([] : List (Addr × Obj)) from hp) (by simp), e0.hok.kept kp, List.length_replicate⟩
  · exact Heap.Ns.keeps (Heap.Ns.new s.heap (.type "frame")) fun b o e => pushCells_keeps _ _ _ _ e
  · rw [List.getElem?_replicate] at e2
    split at e2 <;> cases e2
  · rcases mem' e with ⟨_, e2⟩ | ⟨_, z⟩
    · subst e2
      exact ⟨some cv, _, kp _ _ hcs.1, rfl⟩
    · exact ⟨none, z⟩
  · rcases mem' e with ⟨_, e2⟩ | ⟨h2, _⟩
    · rw [e2]; exact hcs.2
    · exact e0.hok.fresh (Nat.le_of_succ_le h2)
end
section
variable {X : Cx}
/-- the parameters, one behind another -/
theorem bind_ok {M : Model} {A : Around} {E : Value → Shared → Prop} (fb : Str × Value → PUnit → Sem (ForInStep PUnit)) (hfb : ∀ n v u, fb (n, v) u = (do storeName X.env n v; pure (.yield ⟨⟩))) (hN : X.N.Nodup) : ∀ (qs : List Str) (us : List Value) (vs : List V) (i : Nat) (σ : L2.St) (H : Hp) (s : Shared) (Q : PUnit → Shared → Prop),
    Inv X [] σ H s → Vals vs us → us.length = qs.length → (∀ j x, qs[j]? = some x → X.N[i + j]? = some x) → (∀ x ∈ qs, Loc X.env.scope x ∧ (X.fn x = true ∨ X.env.scope.names.lookup x = some .local)) →
    (∀ s', Inv X [] (vs.foldl (fun (p : Nat × L2.St) v => (p.1 + 1, p.2.set p.1 (some v))) (i, σ)).2 H s' → Q ⟨⟩ s') → wpAny M A (forIn (qs.zip us) PUnit.unit fb) Q E s
  | [], us, vs, i, σ, H, s, Q, I, r, hl, _, _, q => by
    cases us with
    | nil =>
      cases r
      show wpAny _ _ (forIn [] _ _) _ _ _
      rw [List.forIn_nil]
      exact wpAny_pure (q s I)
    | cons u us => simp at hl
  | y :: qs, us, vs, i, σ, H, s, Q, I, r, hl, hq, hy, q => by
    cases us with
    | nil => simp at hl
    | cons u us =>
      cases r with
      | @cons v _ vs _ rv rt =>
        obtain ⟨h1, h2⟩ := hy y List.mem_cons_self
        show wpAny _ _ (forIn ((y, u) :: qs.zip us) _ _) _ _ _
        rw [List.forIn_cons, hfb]
        refine wpAny_bind (wpAny_bind (store_ok2 (v := v) I hN (hq 0 y rfl) h1 rv (fun s2 I2 _ => wpAny_pure ?_) h2))
        refine bind_ok fb hfb hN qs us vs (i + 1) _ H s2 Q I2 rt (by simpa using hl) (fun j x e => ?_) (fun x hx => hy x (List.mem_cons_of_mem _ hx)) q
        have := hq (j + 1) x e
        rwa [show i + 1 + j = i + (j + 1) by omega]
end
theorem fold_start : ∀ (vs : List V) (pre : List (Option V)) (m : Nat), vs.length ≤ m → (vs.foldl (fun (p : Nat × L2.St) v => (p.1 + 1, p.2.set p.1 (some v))) (pre.length, pre ++ List.replicate m none)).2 = pre ++ (vs.map some ++ List.replicate (m - vs.length) none)
  | [], pre, m, _ => by simp
  | v :: vs, pre, m, h => by
    cases m with
    | zero => simp at h
    | succ m =>
      rw [List.foldl_cons]
      have e : (pre ++ List.replicate (m + 1) none).set pre.length (some v) = (pre ++ [some v]) ++ List.replicate m none := by
        rw [List.set_append_right _ _ (Nat.le_refl _), Nat.sub_self, List.replicate_succ, List.set_cons_zero, List.append_assoc]
        rfl
      have ih := fold_start vs (pre ++ [some v]) m (by simpa using h)
      rw [List.length_append, List.length_singleton] at ih
      show (vs.foldl _ (pre.length + 1, (pre ++ List.replicate (m + 1) none).set pre.length (some v))).2 = _
      rw [e, ih, List.append_assoc]
      simp
/-- THE RULE for a def that closes over __class__ -/
theorem fnK_of {P : Program} {w : World} {K : PySem.W.Frag} {mg : Str → Option Value} {base : Heap} {k : Nat} {f cc : Addr} {name qual : Str} {params : Arguments} {body : List Stmt} {scope : Scope} {dV kV doc pm cdv ct oc : Value} {an od : Option Addr}
    {osl : Array (Option Value)} {N ps : List Str} {sp : Sp} (lk : K.lookup f = some ⟨oc, od, .func (PySem.W.fnX name qual params body scope [(cKey, cc)] dV kV doc pm an cdv ct), osl⟩) (hcd : PySem.W.codeIn K cdv qual = true) (S : KScope N ps scope)
    {cl : Value} {cdd : Option Addr} {cv : Value} {csl : Array (Option Value)} (lc : K.lookup cc = some ⟨cl, cdd, .cell (some cv), csl⟩)
    (len : ∀ vs H Q E, sp vs H Q E → vs.length = ps.length)
    (hbody : ∀ (A : Around) (outer : List Env) (s : Shared) (H : Hp) (vs : List V) (Q : VK) (E : XK), Room k (A.deeper (envK qual scope s.heap.objs.size f cdv cc)) → sp vs H Q E →
      ∃ t, PSsa (cxK P w K mg base N qual scope f cdv cc A outer s H) body body t ∧ t { nx := fun _ H' => Q .non H', rt := Q } (start N vs) H) :
    FnOk P w K mg base CX0 (k + 1) f (PySem.W.fnX name qual params body scope [(cKey, cc)] dV kV doc pm an cdv ct) ps sp := by
  refine ⟨len, fun A outer s H args us vs Q E hr e0 hb r hsp => ?_⟩
  have hl := len _ _ _ _ hsp
  have KX : K.In s.heap := e0.mod.kin.keeps fun b o e => (e0.bs b o e).1
  have lim : s.heap.NoLimit := e0.mod.nolimit.keeps fun b o e => (e0.bs b o e).1
  refine codeAny_call_function hr.depth (KX _ _ lk) rfl S.co S.gen rfl (PySem.W.codeRec_of KX hcd) (hb _ _ _ _ ?_)
  simp only [newFunctionEnv, Option.isSome_none, Bool.false_eq_true, if_false]
  refine wpAny_bind (wpAny_alloc ?_)
  refine wpAny_bind (wpAny_layCells _ (fun name kind cells => by cases hkc : kind == NameKind.cell <;> simp [hkc]) _ _ _ _ ?_)
  rw [show ({ s with heap := s.heap.push { cls := .type "frame", data := .dict #[] } } : Shared).heap.objs.size = s.heap.objs.size + 1 from Heap.size_push ..]
  have I0 := inv_bare (qual := qual) (f := f) (cd := cdv) S hr.hd e0 lc
  obtain ⟨t, ht, hq⟩ := hbody A outer s H vs Q E (hr.deeper _) hsp
  have hpl : ps.length ≤ N.length := by have := congrArg List.length S.pre; rw [List.length_take] at this; omega
  refine wpAny_bind (bind_ok (X := cxK P w K mg base N qual scope f cdv cc A outer s H) _ (fun n v u => rfl) S.nd ps us vs 0 _ H _ _ I0 r (by rw [← r.length]; exact hl) (fun j x e => ?_) (fun x hx => ?_) (fun s2 I2 => wpAny_pure ⟨I2.nolimit, PySem.ks_codeAny_funcAt ?_⟩))
  · rw [Nat.zero_add]
    have e2 : (N.take ps.length)[j]? = some x := by rw [S.pre]; exact e
    rw [List.getElem?_take_of_lt (List.getElem?_eq_some_iff.mp e).1] at e2
    exact e2
  · have hne : x ≠ cKey := fun e => S.out (by rw [← e]; exact List.mem_of_mem_take (S.pre ▸ hx))
    refine ⟨S.par x hx, .inl ?_⟩
    show (!(x == cKey)) = true
    simp [hne]
  · have fs := fold_start vs [] N.length (by omega)
    have es : (vs.foldl (fun (p : Nat × L2.St) v => (p.1 + 1, p.2.set p.1 (some v))) (0, List.replicate N.length none)).2 = start N vs := fs
    rw [es] at I2
    refine PySem.ks_wpAt_mono (ht.run [] s2 (start N vs) H _ I2 hq) (fun fl s' hs => ?_) fun e s' hs => hs
    have fin : ∀ {σ' : L2.St} {H' : Hp} {v : V} {u : Value}, Inv (cxK P w K mg base N qual scope f cdv cc A outer s H) [] σ' H' s' → RelV v u → Q v H' → CE outer P w H s Q u s' := fun {σ' H' v u} J rv q => ⟨v, H', J.os, J.bare, J.base, J.hok, rv, q⟩
    cases fl with
    | ret u =>
      obtain ⟨v, σ', H', J, rv, q⟩ := hs
      exact fin J rv q
    | next =>
      obtain ⟨σ', H', J, q⟩ := hs
      exact fin (v := V.non) (u := Value.none) J rfl q
    | brk =>
      obtain ⟨_, _, _, q⟩ := hs
      exact False.elim q
    | cont =>
      obtain ⟨_, _, _, q⟩ := hs
      exact False.elim q
end Mk
namespace Mk
open PySem PySem.Spec PyProof.Rows L2
/-! ### a != b by the text's own == -/
structure EqNe (K : PySem.W.Frag) (C f : Addr) : Prop where
  ex : ∃ (nm q : Str) (N : Addr) (bs : List Value) (hdct : Bool) (sn : List Str) (sub : List Value) (ab : Bool) (col : Option Bool) (dd : Option Addr) (k0 k1 k2 k3 k5 : Option Value) (newId : String),
    K.lookup C = some (excClassObj nm q C N bs [.type "object"] hdct sn sub ab col dd k0 k1 k2 k3 k5 newId) ∧
    ∃ (oN : Obj) (es : Array DictEntry) (ep : Nat), K.lookup N = some oN ∧ oN.data = .dict es ep ∧ StrKeys es ∧ nsFind es "__eq__" = some (.ref f) ∧ nsFind es "__ne__" = none
  fn : ∃ of, K.lookup f = some of ∧ of.cls = .type "function"
def strB : Value → Bool
  | .str _ _ => true
  | _ => false
def nsB (K : PySem.W.Frag) (N f : Addr) : Bool := match K.lookup N with
  | some ⟨_, _, .dict es _, _⟩ => (es.toList.all fun e => strB e.key) && (decide (nsFind es "__eq__" = some (.ref f)) && decide (nsFind es "__ne__" = none))
  | _ => false
def fnB (K : PySem.W.Frag) (f : Addr) : Bool := match K.lookup f with
  | some ⟨.type c, _, _, _⟩ => decide (c = "function")
  | _ => false
def slB : List (Option Value) → Bool
  | [_, _, _, _, some (.builtin _), _] => true
  | _ => false
def eqNeB (K : PySem.W.Frag) (C f : Addr) : Bool := (match K.lookup C with
  | some ⟨.type c, _, .cls cd, sl⟩ => decide (c = "type") && (decide (cd.mro = [.ref C, .type "object"]) && ((!cd.hasDel) && (slB sl.toList && nsB K cd.ns f)))
  | _ => false) && fnB K f
theorem slB_ok {sl : Array (Option Value)} (h : slB sl.toList = true) : ∃ k0 k1 k2 k3 k5 newId, sl = #[k0, k1, k2, k3, some (.builtin newId), k5] := by
  obtain ⟨l⟩ := sl
  show ∃ k0 k1 k2 k3 k5 newId, _
  have h : slB l = true := h
  unfold slB at h
  split at h
  · exact ⟨_, _, _, _, _, _, rfl⟩
  · cases h
theorem eqNeB_ok {K : PySem.W.Frag} {C f : Addr} (h : eqNeB K C f = true) : EqNe K C f := by
  obtain ⟨h1, h2⟩ := He.ba h
  refine ⟨?_, ?_⟩
  · cases q : K.lookup C with
    | none => rw [q] at h1; cases h1
    | some o =>
      obtain ⟨oc, od, dt, sl⟩ := o
      rw [q] at h1
      cases oc with
      | type c =>
        cases dt with
        | cls cd =>
          obtain ⟨e1, h1⟩ := He.ba (show (decide (c = "type") && (decide (cd.mro = [.ref C, .type "object"]) && ((!cd.hasDel) && (slB sl.toList && nsB K cd.ns f)))) = true from h1)
          obtain ⟨e2, h1⟩ := He.ba h1
          obtain ⟨e3, h1⟩ := He.ba h1
          obtain ⟨e4, hns⟩ := He.ba h1
          obtain ⟨k0, k1, k2, k3, k5, nid, e5⟩ := slB_ok e4
          obtain ⟨n1, n2, n3, n4, n5, n6, n7, n8, n9, n10, n11⟩ := cd
          have g1 : c = "type" := of_decide_eq_true e1
          have g2 : n3 = [.ref C, .type "object"] := of_decide_eq_true e2
          have g3 : n11 = false := by cases n11 <;> first | rfl | cases e3
          clear e1 e2 e3
          subst g1 g2 g3 e5
          refine ⟨n1, n5, n4, n2, n6, n7, n8, n9, n10, od, k0, k1, k2, k3, k5, nid, rfl, ?_⟩
          have h1 : nsB K n4 f = true := hns
          unfold nsB at h1
          cases q2 : K.lookup n4 with
          | none => rw [q2] at h1; cases h1
          | some o2 =>
            obtain ⟨oc2, od2, dt2, sl2⟩ := o2
            rw [q2] at h1
            cases dt2 with
            | dict es ep =>
              obtain ⟨f1, h1⟩ := He.ba h1
              obtain ⟨f2, f3⟩ := He.ba h1
              refine ⟨_, es, ep, rfl, rfl, fun e he => ?_, of_decide_eq_true f2, of_decide_eq_true f3⟩
              have z := List.all_eq_true.mp f1 e (by simpa using he)
              cases hk : e.key with
              | str n t => exact ⟨n, t, rfl⟩
              | _ => rw [hk] at z; cases z
            | _ => cases h1
        | _ => cases h1
      | _ => cases dt <;> cases h1
  · unfold fnB at h2
    cases q : K.lookup f with
    | none => rw [q] at h2; cases h2
    | some o =>
      obtain ⟨oc, od, dt, sl⟩ := o
      rw [q] at h2
      cases oc with
      | type c =>
        have e : c = "function" := of_decide_eq_true h2
        exact ⟨_, rfl, by rw [e]⟩
      | _ => cases h2
def rNeOwn (C : Addr) (sp : Sp) : R2 := fun x y H Q => ∃ a b dx dy fs gs, x = .ref a ∧ y = .ref b ∧ H a = some (.ins C dx fs) ∧ H b = some (.ins C dy gs) ∧ sp [x, y] H (fun v H' => ∃ r, v = .bl r ∧ Q (.bl (!r)) H') E0
theorem op_neOwn {X : Cx} {C f : Addr} {fd : FuncData} {ps : List Str} {k : Nat} {sp : Sp} (S : EqNe X.K C f) (FO : FnOk X.prog X.w X.K X.mg X.base CX0 k f fd ps sp) (hr : Room (k + 1) X.A) (hb : Binds X.K fd ps []) : OpR X (compareOp .NotEq) (rNeOwn C sp) := by
  intro pins s σ H x y v u Q I rx ry h
  obtain ⟨a, b, dx, dy, fs, gs, rfl, rfl, ha, hb', q⟩ := h
  cases rx
  cases ry
  obtain ⟨nm, qn, N, bs, hdct, sn, sub, ab, col, dd, k0, k1, k2, k3, k5, nid, lC, oN, es, ep, lN, dN, kN, fE, fN⟩ := S.ex
  obtain ⟨of, lf, cf⟩ := S.fn
  obtain ⟨mA, J, _⟩ := ins_get I.hok ha
  obtain ⟨oa, J, _⟩ := J.look
  obtain ⟨mB, J', _⟩ := ins_get I.hok hb'
  obtain ⟨ob, J', _⟩ := J'.look
  have XK := I.kIn
  have OE : s.heap.OwnEqNoNe a C f "object" [.type "object"] := ⟨_, of, nm, qn, N, bs, hdct, sn, sub, ab, col, dd, k0, k1, k2, k3, k5, nid, nsFind es, _, J.at_, J.cls, XK _ _ lC, ⟨oN, es, ep, XK _ _ lN, dN, kN, fun _ => rfl⟩, fE, XK _ _ lf, cf, F.cmp_object.mro, F.cmp_object.eq.lookup, fN⟩
  have hu : X.A.units + 1 < cLine := Nat.lt_of_le_of_lt (Nat.add_le_add_left (by decide : 1 ≤ 64) _) hr.units
  have e0 := I.env0.in1
  have hlen := FO.len _ _ _ _ q
  have r2 : Vals [V.ref a, V.ref b] [Value.ref a, Value.ref b] := .cons rfl (.cons rfl .nil)
  obtain ⟨hh, g, d, t, os⟩ := s
  refine compareOp_ne_ownEq F.cmp_object OE J'.at_ J'.cls hu ?_
  refine wpAny_call (codeAny_mono (FO.run X.A.in1 X.stack ⟨hh, g, d, t, os⟩ H ⟨[.ref a, .ref b], []⟩ [.ref a, .ref b] [.ref a, .ref b] _ E0 (hr.in1.mono (by omega)) e0 (by
    have := hb ⟨hh, g, d, t, os⟩ [.ref a, .ref b] I.kIn (by simpa using hlen)
    simpa using this) r2 q) fun r s' hq => ?_)
  cases r with
  | error e => exact hq.elim
  | ok fl =>
    cases fl with
    | ret w' =>
      obtain ⟨z, H', I', rz, b, ez, q3⟩ := I.after hq
      subst ez
      cases rz
      exact ⟨b, rfl, .bl (!b), H', I', rfl, q3⟩
    | next => exact False.elim hq
    | brk => exact False.elim hq
    | cont => exact False.elim hq
end Mk
namespace Mk
open PySem PySem.Spec PyProof.Rows L2
/-! ### enumerate over a tuple -/
theorem new_enumT {v : Value} {o : Obj} {G : Heap → Prop} (B : Begins v o G) :
    Meets (Builtin.«enumerate.__new__» ⟨[.type "enumerate", v], []⟩) (fun _ R s => G s.heap ∧
      R (.ok (.ret (.ref (s.heap.push o).objs.size))) { s with heap := (s.heap.push o).push { cls := .type "enumerate", data := .fields #[.none, .bool false, .ref s.heap.objs.size, rawInt 0, .none, .none] } }) :=
  .of_wp fun prog w A R s h => by
    obtain ⟨hp, g, d, tk, os⟩ := s
    obtain ⟨h1, h⟩ := h
    have hsub := sub_enumerate
    have q1 : ∀ {A' : Around} {E : Value → Shared → Prop} {Q : Value → Shared → Prop}, Q (.ref hp.objs.size) ⟨hp.push o, g, d, tk, os⟩ → wpAny (model prog w) A' (pyIter v) Q E ⟨hp, g, d, tk, os⟩ :=
      fun q => B.iter prog w _ _ ⟨hp, g, d, tk, os⟩ _ h1 q
    wp_walk using q1
    refine wpAny_stack_any fun st => wpAny_pure ?_
    split
    · rename_i c _ _ _ _ _
      cases (c == Value.type "enumerate") <;> (wp_walk using q1; exact ⟨_, rfl, h⟩)
    · wp_walk using q1
      exact ⟨_, rfl, h⟩
theorem call_enumT {prog : Program} {w : World} {A : Around} {E : Value → Shared → Prop} {s : Shared} {v : Value} {o : Obj} {G : Heap → Prop} {Q : Value → Shared → Prop} (B : Begins v o G) (h1 : G s.heap)
    (h : ∀ h', IsEnum h' (s.heap.objs.size + 1) s.heap.objs.size 0 .none → h'.get? s.heap.objs.size = some o → (∀ b o, s.heap.get? b = some o → h'.get? b = some o) → Q (.ref (s.heap.objs.size + 1)) { s with heap := h' }) :
    wpAny (model prog w) A (call (.type "enumerate") [v]) Q E s := by
  have hz : (s.heap.push o).objs.size = s.heap.objs.size + 1 := Heap.size_push ..
  have he : IsEnum ((s.heap.push o).push { cls := .type "enumerate", data := .fields #[.none, .bool false, .ref s.heap.objs.size, rawInt 0, .none, .none] }) (s.heap.objs.size + 1) s.heap.objs.size 0 .none := by
    have q := Heap.get?_push_size (s.heap.push o) (o := { cls := .type "enumerate", data := .fields #[.none, .bool false, .ref s.heap.objs.size, rawInt 0, .none, .none] }) rfl
    rw [hz] at q
    exact q
  refine callType_new F.called_enumerate (by decide) (F.typeCall_enumerate_1 _) (F.newCall_enumerate_1 _) (fun obj => F.args_object_init_2 obj _) F.entry_enumerate_new (new_enumT B) ⟨h1, ?_⟩
  show _ ∧ _
  rw [hz]
  exact ⟨⟨_, he, rfl⟩, h _ he (Heap.get?_push_of_some _ (Heap.get?_push_size _ B.free)) fun b o x => Heap.get?_push_of_some _ (Heap.get?_push_of_some _ x)⟩
def IteT (K : PySem.W.Frag) (a : Addr) (xs : List V) : It :=
  ⟨fun i H => SqT K H a xs ∧ i < xs.length, fun i H v H' => ∃ T x, xs[i]? = some x ∧ v = .ref T ∧ H T = none ∧ H' = upd H T (.tup [.int (i : Nat), x]), fun i H => SqT K H a xs ∧ i = xs.length⟩
theorem turn_enumT {P : Program} {w : World} {K : PySem.W.Frag} {elts : List Expr} {kk : Nat} {tpos : Pos} (a e it : Addr) (xs : List V) :
    Turn P w K (.Tuple elts kk tpos) (IteT K a xs) [e, it] e (fun i h => (∃ old, IsEnum h e it ((i : Nat) : Int) old) ∧ h.IsTupleIter it a i ∧ e ≠ it ∧ a ≠ it ∧ a ≠ e) where
  mem := by simp
  obj := fun i h st b hb => by
    obtain ⟨⟨old, he⟩, ⟨o, ho, hc, hd⟩, _⟩ := st
    have e' : b = e ∨ b = it := by simpa using hb
    rcases e' with z | z
    · rw [z]; exact ⟨_, he, fun v q => nomatch q⟩
    · rw [z]; exact ⟨o, ho, fun v q => by rw [hd] at q; cases q⟩
  keep := fun i h h' st k => let ⟨⟨old, he⟩, hi, hne⟩ := st; ⟨⟨old, k e (by simp) _ he⟩, hi.at fun o q => k it (by simp) o q, hne⟩
  item := by
    intro X hP hw hK hc i pins s σ H E I hf st hg
    subst hP hw hK
    obtain ⟨⟨old, he⟩, hit, hne, hai, hae⟩ := st
    obtain ⟨hq, hi⟩ := hg
    obtain ⟨its, rv, p, hz⟩ := I.tuple hq
    have hl := rv.length
    have hel : e < s.heap.objs.size := Heap.lt_size he
    have hil : it < s.heap.objs.size := by obtain ⟨_, q, _⟩ := hit; exact Heap.lt_size q
    have D := Draws.tuple (prog := X.prog) (w := X.w) (A := X.A.in1) (show X.A.in1.handled = none from I.ok.hd hc) it a hai its.toArray
    refine wpAny_pyNext_enum_itemC (i := i) D he ⟨hit, p⟩ (by simp; omega) hne (by simp [hne, Ne.symm hae]) fun x h' tk hP ho hs' hT hsz hk => ?_
    obtain ⟨y, hy⟩ : ∃ y, xs[i]? = some y := ⟨xs[i], List.getElem?_eq_getElem hi⟩
    obtain ⟨u, hu, ru⟩ := rv.get hy
    have exu : x = u := by
      have z : its.toArray[i]? = some x := hP
      rw [List.getElem?_toArray, hu] at z
      exact (Option.some.inj z).symm
    subst exu
    refine ⟨_, rfl, wpAny_letOwnedTupleGo_enum (s := { s with heap := h', toks := tk + 1 }) ho fun h'' he' sb => ?_⟩
    have hT2 : h''.get? s.heap.objs.size = some { cls := .type "tuple", data := .seq #[.int i tk, x] } := (sb.2 _ (Nat.ne_of_gt hel)).trans hT
    have new : ObjOk X.prog X.w (upd H s.heap.objs.size (.tup [.int (i : Nat), y])) h'' s.heap.objs.size (.tup [.int (i : Nat), y]) :=
      ⟨by show 2 ≤ sizeLine; decide, [.int i tk, x], .cons ⟨_, rfl⟩ (.cons ru .nil), ⟨_, hT2, rfl, _, rfl⟩⟩
    have I1 : Inv X pins σ (upd H s.heap.objs.size (.tup [.int (i : Nat), y])) { s with heap := h'', toks := tk + 1 } :=
      I.turnedNew (ch := [e, it]) (fun b ob hb q => (sb.2 b (fun z => hb (by simp [z]))).trans (hk b ob (fun z => hb (by simp [z])) (fun z => hb (by simp [z])) q)) hf (Nat.le_refl _) new
    refine ⟨.ref s.heap.objs.size, _, I1, rfl, ⟨_, y, hy, rfl, I.hok.fresh (Nat.le_refl _), rfl⟩, ⟨⟨x, ?_⟩, hs'.1.at fun o q => (sb.2 it (Ne.symm hne)).trans q, hne, hai, hae⟩, fun b hb => ?_⟩
    · have e1 : ((i + 1 : Nat) : Int) = (i : Int) + 1 := by omega
      rw [e1]
      exact he'
    · have hb' : b < s.heap.objs.size := by
        have e' : b = e ∨ b = it := by simpa using hb
        rcases e' with z | z
        · rw [z]; exact hel
        · rw [z]; exact hil
      rw [upd_ne (Nat.ne_of_lt hb')]
      exact (hf b hb).1
  done := by
    intro X hP hw hK hc i pins s σ H E I hf st hg
    subst hP hw hK
    obtain ⟨⟨old, he⟩, hit, hne, hai, hae⟩ := st
    obtain ⟨hq, hi⟩ := hg
    obtain ⟨its, rv, p, hz⟩ := I.tuple hq
    have hl := rv.length
    obtain ⟨f0, f1, f2, f3, f4, f5⟩ := hf it (by simp)
    have D := Draws.tuple (prog := X.prog) (w := X.w) (A := X.A.in1) (show X.A.in1.handled = none from I.ok.hd hc) it a hai its.toArray
    exact wpAny_pyNext_enum_endD D he ⟨by rw [show its.toArray.size = i by simp; omega]; exact hit, p⟩ fun h' eb => ⟨rfl, I.turned (t' := s.toks) (fun b ob hb q => eb b ob hb q) f0 f1 f3 f4 f5⟩
  self := fun A i s Q E st h => let ⟨⟨_, he⟩, _⟩ := st; wpAny_pyIter_enum he h
def iEnumT (K : PySem.W.Frag) (ta : TA) : TI := fun σ H R => ta σ H fun vs H1 => ∃ a xs, vs = [.ref a] ∧ SqT K H1 a xs ∧ R (IteT K a xs) H1
theorem pi_enumT {X : Cx} {e : Expr} {ta : TA} {p pos tpos : Pos} {elts : List Expr} {kk : Nat} (hg : Gl X "enumerate") (hm : X.mg "enumerate" = none) (ha : PA X [e] ta) (hs : starEach [e] X.env = [(false, eval e X.env)] := by rfl) :
    PI X (.Tuple elts kk tpos) (.Call (.Name "enumerate" p) [e] [] pos) (iEnumT X.K ta) := by
  refine ⟨fun pins s σ H R I h => ?_⟩
  refine Call_ (ld_blt I hg hm boot_enumerate (PyProof.Rows.callWith_type1 (thn (ha.run pos pins s σ H _ I h) fun us s1 ⟨vs, H1, I1, r1, q1⟩ => ?_) hs rfl))
  obtain ⟨a, xs, ex, hq, q⟩ := q1
  subst ex
  cases r1 with
  | cons r rr =>
    cases rr
    cases r
    obtain ⟨its, rv, p', hz⟩ := I1.tuple hq
    have hlt : a < s1.heap.objs.size := p'.lt
    refine call_enumT (begins_tuple a its.toArray) p' fun h' he ho hk => wpAny_pyIter_enum he ?_
    refine ⟨s1.heap.objs.size + 1, [s1.heap.objs.size + 1, s1.heap.objs.size], _, _, H1, rfl, I1.kept (h' := h') (t' := s1.toks) hk, turn_enumT a (s1.heap.objs.size + 1) s1.heap.objs.size xs, ⟨⟨.none, he⟩, ⟨_, ho, rfl, rfl⟩, Nat.succ_ne_self _, Nat.ne_of_lt hlt, Nat.ne_of_lt (Nat.lt_succ_of_lt hlt)⟩, fun b hb => ?_, q⟩
    have hle : s1.heap.objs.size ≤ b := by
      have e' : b = s1.heap.objs.size + 1 ∨ b = s1.heap.objs.size := by simpa using hb
      rcases e' with z | z
      · rw [z]; exact Nat.le_add_right _ _
      · rw [z]; exact Nat.le_refl _
    exact I1.fpOk hle (I1.hok.fresh hle)
/-! ### o.f = v as one target of several -/
def gFld (K : PySem.W.Frag) (ta : TE) (f : Str) : TG := fun v σ H Q => ta σ H fun x H2 => ∃ a C dx fs, x = .ref a ∧ H2 a = some (.ins C dx fs) ∧ Cls K C ∧ NoAttr K C f ∧ fs.length < 1000 ∧ Q σ (upd H2 a (.ins C dx (putF f v fs)))
theorem pg_fld {X : Cx} {o : Expr} {f : Str} {pos : Pos} {ta : TE} (ha : PE X o ta) : PG X (.Attribute o f pos) (gFld X.K ta f) := by
  refine ⟨fun pins s σ H v u Q I r h => ?_⟩
  have key : wpAny (model X.prog X.w) X.A (eval o X.env) (fun ov s2 => wpAny (model X.prog X.w) X.A (setAttr ov f u) (fun _ s' => ∃ σ' H', Inv X pins σ' H' s' ∧ Q σ' H') X.xe s2) X.xe s := by
    refine thn (ha.run pins s σ H _ I h) fun ov s2 ⟨x, H2, I2, rx, a, C, dx, fs, ex, ea, c, n, l, q2⟩ => ?_
    subst ex
    cases rx
    exact setattr_ok I2 ea c n l r fun s3 I3 => ⟨σ, _, I3, q2⟩
  intro G p hG
  simp only [assign_Attribute, Sem.wp_bind', Sem.wp_holding, Sem.wp_cmd_standAt, Sem.wp_release, Sem.wp_pure']
  exact Sem.wp_mono _ G _ (fun ov _ s2 h2 => h2 G _ hG) (fun _ _ _ h' => h') _ _ (key G _ hG)
/-! ### calls by one word -/
/-- a def of the text, ready to be called -/
structure Cal (P : Program) (w : World) (K : PySem.W.Frag) (mg : Str → Option Value) (base : Heap) (x : Str) (k : Nat) (ps : List Str) (dvs : List V) (sp : Sp) : Prop where
  ex : ∃ (f : Addr) (fd : FuncData) (ds : List Value), mg x = some (.ref f) ∧ PySem.W.keepIn K (.ref f) = true ∧ Vals dvs ds ∧ Binds K fd ps ds ∧ FnOk P w K mg base CX0 k f fd ps sp
/-- a method of the class at C -/
structure CalM (P : Program) (w : World) (K : PySem.W.Frag) (mg : Str → Option Value) (base : Heap) (C : Addr) (m : Str) (k : Nat) (ps : List Str) (sp : Sp) : Prop where
  ex : ∃ (f : Addr) (fd : FuncData), Cls K C ∧ Meth K C m f ∧ Binds K fd ps [] ∧ FnOk P w K mg base CX0 k f fd ps sp
/-- the class x at C, made by its __init__ -/
structure CalI (P : Program) (w : World) (K : PySem.W.Frag) (mg : Str → Option Value) (base : Heap) (x : Str) (C : Addr) (k : Nat) (ps : List Str) (sp : Sp) : Prop where
  ex : ∃ (f : Addr) (fd : FuncData), mg x = some (.ref C) ∧ Mk K C f ∧ Binds K fd ps [] ∧ FnOk P w K mg base CX0 k f fd ps sp
section
variable {X : Cx} {x m : Str} {k : Nat} {ps : List Str} {dvs : List V} {sp : Sp} {C : Addr} {e o : Expr} {es : List Expr} {t : TA} {ta : TE} {p pos apos : Pos}
theorem pe_cal (c : Cal X.prog X.w X.K X.mg X.base x k ps dvs sp) (hr : Room k X.A) (hg : Gl X x) (ha : PA X (e :: es) t) (hdb : (x == ("__debug__" : Str)) = false := by decide)
    (he : starEach (e :: es) X.env = (false, eval e X.env) :: starEach es X.env := by rfl) (hpl : (backTo pos (starEach es X.env)).any (·.1) = false := by rfl) : PE X (.Call (.Name x p) (e :: es) [] pos) (tCall sp dvs E0 t) := by
  obtain ⟨f, fd, ds, h1, h2, h3, h4, h5⟩ := c.ex
  exact pe_call h5 hr hg h1 h2 h4 h3 pass0 ha hdb he hpl
theorem pe_calM {pl : Sem Bool} (c : CalM X.prog X.w X.K X.mg X.base C m k ps sp) (hr : Room k X.A) (ho : PE X o ta) (ha : PA X (e :: es) t)
    (hst : starEach (e :: es) X.env = (false, eval e X.env) :: starEach es X.env := by rfl) (hpl : (backTo pos (starEach es X.env)).any (·.1) = false := by rfl)
    (ht : eval (.Call (.Attribute o m apos) (e :: es) [] pos) X.env = (do
      let ov ← eval o X.env
      standAt apos.atName
      let (f, first) ← holding [ov] (getMethod ov m pl)
      callWith pos f first (backTo pos (starEach (e :: es) X.env)) (backToKw pos (keywordEach [] X.env))) := by rfl) : PE X (.Call (.Attribute o m apos) (e :: es) [] pos) (tMeth C m sp [] E0 ta t) := by
  obtain ⟨f, fd, h1, h2, h3, h4⟩ := c.ex
  exact pe_meth ho h1 h2 h4 hr h3 .nil pass0 ha hst hpl ht
theorem pe_calM0 {pl : Sem Bool} (c : CalM X.prog X.w X.K X.mg X.base C m k ps sp) (hr : Room k X.A) (ho : PE X o ta)
    (ht : eval (.Call (.Attribute o m apos) [] [] pos) X.env = (do
      let ov ← eval o X.env
      standAt apos.atName
      let (f, first) ← holding [ov] (getMethod ov m pl)
      callWith pos f first (backTo pos (starEach [] X.env)) (backToKw pos (keywordEach [] X.env))) := by rfl) : PE X (.Call (.Attribute o m apos) [] [] pos) (tMeth C m sp [] E0 ta tNil) := by
  obtain ⟨f, fd, h1, h2, h3, h4⟩ := c.ex
  exact pe_meth0 ho h1 h2 h4 hr h3 .nil pass0 ht
theorem pe_calI (c : CalI X.prog X.w X.K X.mg X.base x C k ps sp) (hr : Room (k + 1) X.A) (hg : Gl X x) (ha : PA X (e :: es) t) (hdb : (x == ("__debug__" : Str)) = false := by decide)
    (he : starEach (e :: es) X.env = (false, eval e X.env) :: starEach es X.env := by rfl) (hpl : (backTo pos (starEach es X.env)).any (·.1) = false := by rfl) : PE X (.Call (.Name x p) (e :: es) [] pos) (tMake C sp [] E0 t) := by
  obtain ⟨f, fd, h1, h2, h3, h4⟩ := c.ex
  exact pe_make h2 h4 hr hg h1 h3 .nil pass0 ha hdb he hpl
/-- a constant of the module -/
theorem pe_gint {i : Int} (hg : Gl X x) (hm : ∃ t, X.mg x = some (.int i t)) (hd : (x == ("__debug__" : Str)) = false := by decide) : PE X (.Name x pos) (tC (.int i)) := by
  obtain ⟨t, h⟩ := hm
  exact pe_glob hg h ⟨t, rfl⟩ (hd := hd)
theorem pe_gref {a : Addr} (hg : Gl X x) (hm : X.mg x = some (.ref a)) (hd : (x == ("__debug__" : Str)) = false := by decide) : PE X (.Name x pos) (tC (.ref a)) := pe_glob hg hm rfl (hd := hd)
end
end Mk
namespace Mk
open PySem PySem.Spec PyProof.Rows L2
/-! ### the text -/
def topS (i : Nat) : Stmt := PySem.Challenge.pw_makesorbars_k46_whole_every_table_by_its.main.body.getD i (.Pass ⟨0, 0, 0, 0⟩)
abbrev s_is_integer : Stmt := topS 8
abbrev s_is_within : Stmt := topS 9
abbrev s_is_bit : Stmt := topS 10
abbrev s_is_way : Stmt := topS 23
abbrev s_exits_in : Stmt := topS 24
abbrev s_need_kind : Stmt := topS 27
abbrev s_first_of : Stmt := topS 28
abbrev s_is_rule : Stmt := topS 36
abbrev s_are_rules : Stmt := topS 37
abbrev s_need_table : Stmt := topS 39
abbrev s_numbered : Stmt := topS 41
abbrev s_lots_of : Stmt := topS 42
abbrev s_come_to : Stmt := topS 43
abbrev s_least_in : Stmt := topS 44
abbrev s_are_begins : Stmt := topS 56
abbrev s_is_target : Stmt := topS 57
abbrev s_arrivals_of : Stmt := topS 64
abbrev s_pairs_of : Stmt := topS 65
abbrev s_pieces_for : Stmt := topS 66
abbrev s_mark_of : Stmt := topS 67
abbrev s_latest : Stmt := topS 68
abbrev s_laid_every : Stmt := topS 70
abbrev s_every_web : Stmt := topS 71
abbrev s_law_mill : Stmt := topS 73
abbrev s_law_cog : Stmt := topS 74
abbrev s_law_pick : Stmt := topS 75
abbrev s_law_rules : Stmt := topS 76
abbrev s_law_least : Stmt := topS 77
abbrev s_law_bound : Stmt := topS 78
abbrev s_law_firsts : Stmt := topS 79
abbrev s_law_behind : Stmt := topS 80
abbrev s_law_walked : Stmt := topS 81
abbrev s_law_answered : Stmt := topS 82
abbrev s_law_is_laid : Stmt := topS 83
abbrev s_law : Stmt := topS 84
abbrev s_Kind_init : Stmt := inClass (topS 25) 0
abbrev s_Table_init : Stmt := inClass (topS 38) 0
abbrev s_Web_init : Stmt := inClass (topS 58) 0
abbrev s_Web_eq : Stmt := inClass (topS 58) 1
abbrev s_Laying_init : Stmt := inClass (topS 63) 0
abbrev s_Laying_led : Stmt := inClass (topS 63) 1
abbrev s_Laying_marked : Stmt := inClass (topS 63) 2
abbrev s_Laying_looked : Stmt := inClass (topS 63) 3
abbrev s_Laying_web : Stmt := inClass (topS 63) 4
abbrev s_EveryLaying_init : Stmt := inClass (topS 69) 0
abbrev s_EveryLaying_arrival_track : Stmt := inClass (topS 69) 1
abbrev s_EveryLaying_lay : Stmt := inClass (topS 69) 2
abbrev s_EveryLaying_opened : Stmt := inClass (topS 69) 3
/-! ### what stands behind the top -/
def d_is_integer : He.DefD := ⟨("is_integer", none), "is_integer", "is_integer", defArgs s_is_integer, defBody s_is_integer, defScope s_is_integer, [], []⟩
def d_is_within : He.DefD := ⟨("is_within", none), "is_within", "is_within", defArgs s_is_within, defBody s_is_within, defScope s_is_within, [], []⟩
def d_is_bit : He.DefD := ⟨("is_bit", none), "is_bit", "is_bit", defArgs s_is_bit, defBody s_is_bit, defScope s_is_bit, [], []⟩
def d_is_way : He.DefD := ⟨("is_way", none), "is_way", "is_way", defArgs s_is_way, defBody s_is_way, defScope s_is_way, [], []⟩
def d_exits_in : He.DefD := ⟨("exits_in", none), "exits_in", "exits_in", defArgs s_exits_in, defBody s_exits_in, defScope s_exits_in, [], []⟩
def d_need_kind : He.DefD := ⟨("need_kind", none), "need_kind", "need_kind", defArgs s_need_kind, defBody s_need_kind, defScope s_need_kind, [.str "kind"], []⟩
def d_first_of : He.DefD := ⟨("first_of", none), "first_of", "first_of", defArgs s_first_of, defBody s_first_of, defScope s_first_of, [], []⟩
def d_is_rule : He.DefD := ⟨("is_rule", none), "is_rule", "is_rule", defArgs s_is_rule, defBody s_is_rule, defScope s_is_rule, [], []⟩
def d_are_rules : He.DefD := ⟨("are_rules", none), "are_rules", "are_rules", defArgs s_are_rules, defBody s_are_rules, defScope s_are_rules, [], []⟩
def d_need_table : He.DefD := ⟨("need_table", none), "need_table", "need_table", defArgs s_need_table, defBody s_need_table, defScope s_need_table, [.str "table"], []⟩
def d_numbered : He.DefD := ⟨("numbered", none), "numbered", "numbered", defArgs s_numbered, defBody s_numbered, defScope s_numbered, [], []⟩
def d_lots_of : He.DefD := ⟨("lots_of", none), "lots_of", "lots_of", defArgs s_lots_of, defBody s_lots_of, defScope s_lots_of, [], []⟩
def d_come_to : He.DefD := ⟨("come_to", none), "come_to", "come_to", defArgs s_come_to, defBody s_come_to, defScope s_come_to, [], []⟩
def d_least_in : He.DefD := ⟨("least_in", none), "least_in", "least_in", defArgs s_least_in, defBody s_least_in, defScope s_least_in, [], []⟩
def d_are_begins : He.DefD := ⟨("are_begins", none), "are_begins", "are_begins", defArgs s_are_begins, defBody s_are_begins, defScope s_are_begins, [], []⟩
def d_is_target : He.DefD := ⟨("is_target", none), "is_target", "is_target", defArgs s_is_target, defBody s_is_target, defScope s_is_target, [], []⟩
def d_arrivals_of : He.DefD := ⟨("arrivals_of", none), "arrivals_of", "arrivals_of", defArgs s_arrivals_of, defBody s_arrivals_of, defScope s_arrivals_of, [], []⟩
def d_pairs_of : He.DefD := ⟨("pairs_of", none), "pairs_of", "pairs_of", defArgs s_pairs_of, defBody s_pairs_of, defScope s_pairs_of, [], []⟩
def d_pieces_for : He.DefD := ⟨("pieces_for", none), "pieces_for", "pieces_for", defArgs s_pieces_for, defBody s_pieces_for, defScope s_pieces_for, [], []⟩
def d_mark_of : He.DefD := ⟨("mark_of", none), "mark_of", "mark_of", defArgs s_mark_of, defBody s_mark_of, defScope s_mark_of, [], []⟩
def d_latest : He.DefD := ⟨("latest", none), "latest", "latest", defArgs s_latest, defBody s_latest, defScope s_latest, [], []⟩
def d_laid_every : He.DefD := ⟨("laid_every", none), "laid_every", "laid_every", defArgs s_laid_every, defBody s_laid_every, defScope s_laid_every, [], []⟩
def d_every_web : He.DefD := ⟨("every_web", none), "every_web", "every_web", defArgs s_every_web, defBody s_every_web, defScope s_every_web, [], []⟩
def d_law_mill : He.DefD := ⟨("_law_mill", none), "_law_mill", "_law_mill", defArgs s_law_mill, defBody s_law_mill, defScope s_law_mill, [], []⟩
def d_law_cog : He.DefD := ⟨("_law_cog", none), "_law_cog", "_law_cog", defArgs s_law_cog, defBody s_law_cog, defScope s_law_cog, [], []⟩
def d_law_pick : He.DefD := ⟨("_law_pick", none), "_law_pick", "_law_pick", defArgs s_law_pick, defBody s_law_pick, defScope s_law_pick, [], []⟩
def d_law_rules : He.DefD := ⟨("_law_rules", none), "_law_rules", "_law_rules", defArgs s_law_rules, defBody s_law_rules, defScope s_law_rules, [], []⟩
def d_law_least : He.DefD := ⟨("_law_least", none), "_law_least", "_law_least", defArgs s_law_least, defBody s_law_least, defScope s_law_least, [], []⟩
def d_law_bound : He.DefD := ⟨("_law_bound", none), "_law_bound", "_law_bound", defArgs s_law_bound, defBody s_law_bound, defScope s_law_bound, [], []⟩
def d_law_firsts : He.DefD := ⟨("_law_firsts", none), "_law_firsts", "_law_firsts", defArgs s_law_firsts, defBody s_law_firsts, defScope s_law_firsts, [], []⟩
def d_law_behind : He.DefD := ⟨("_law_behind", none), "_law_behind", "_law_behind", defArgs s_law_behind, defBody s_law_behind, defScope s_law_behind, [], []⟩
def d_law_walked : He.DefD := ⟨("_law_walked", none), "_law_walked", "_law_walked", defArgs s_law_walked, defBody s_law_walked, defScope s_law_walked, [], []⟩
def d_law_answered : He.DefD := ⟨("_law_answered", none), "_law_answered", "_law_answered", defArgs s_law_answered, defBody s_law_answered, defScope s_law_answered, [], []⟩
def d_law_is_laid : He.DefD := ⟨("_law_is_laid", none), "_law_is_laid", "_law_is_laid", defArgs s_law_is_laid, defBody s_law_is_laid, defScope s_law_is_laid, [], []⟩
def d_law : He.DefD := ⟨("law", none), "law", "law", defArgs s_law, defBody s_law, defScope s_law, [], []⟩
def d_Kind_init : He.DefD := ⟨("Kind", some "__init__"), "__init__", "Kind.__init__", defArgs s_Kind_init, defBody s_Kind_init, defScope s_Kind_init, [], []⟩
def d_Table_init : He.DefD := ⟨("Table", some "__init__"), "__init__", "Table.__init__", defArgs s_Table_init, defBody s_Table_init, defScope s_Table_init, [], []⟩
def d_Web_init : He.DefD := ⟨("Web", some "__init__"), "__init__", "Web.__init__", defArgs s_Web_init, defBody s_Web_init, defScope s_Web_init, [], []⟩
def d_Web_eq : He.DefD := ⟨("Web", some "__eq__"), "__eq__", "Web.__eq__", defArgs s_Web_eq, defBody s_Web_eq, defScope s_Web_eq, [], []⟩
def d_Laying_init : He.DefD := ⟨("Laying", some "__init__"), "__init__", "Laying.__init__", defArgs s_Laying_init, defBody s_Laying_init, defScope s_Laying_init, [], []⟩
def d_Laying_led : He.DefD := ⟨("EveryLaying", some "led"), "led", "Laying.led", defArgs s_Laying_led, defBody s_Laying_led, defScope s_Laying_led, [], []⟩
def d_Laying_marked : He.DefD := ⟨("EveryLaying", some "marked"), "marked", "Laying.marked", defArgs s_Laying_marked, defBody s_Laying_marked, defScope s_Laying_marked, [], []⟩
def d_Laying_looked : He.DefD := ⟨("EveryLaying", some "looked"), "looked", "Laying.looked", defArgs s_Laying_looked, defBody s_Laying_looked, defScope s_Laying_looked, [], []⟩
def d_Laying_web : He.DefD := ⟨("EveryLaying", some "web"), "web", "Laying.web", defArgs s_Laying_web, defBody s_Laying_web, defScope s_Laying_web, [], []⟩
def d_EveryLaying_arrival_track : He.DefD := ⟨("EveryLaying", some "arrival_track"), "arrival_track", "EveryLaying.arrival_track", defArgs s_EveryLaying_arrival_track, defBody s_EveryLaying_arrival_track, defScope s_EveryLaying_arrival_track, [], []⟩
def d_EveryLaying_lay : He.DefD := ⟨("EveryLaying", some "lay"), "lay", "EveryLaying.lay", defArgs s_EveryLaying_lay, defBody s_EveryLaying_lay, defScope s_EveryLaying_lay, [], []⟩
def d_EveryLaying_opened : He.DefD := ⟨("EveryLaying", some "opened"), "opened", "EveryLaying.opened", defArgs s_EveryLaying_opened, defBody s_EveryLaying_opened, defScope s_EveryLaying_opened, [], []⟩
def fn0 : List He.DefD := [d_is_integer, d_is_within, d_is_bit, d_is_way, d_exits_in, d_need_kind, d_first_of, d_is_rule, d_are_rules, d_need_table, d_numbered, d_lots_of, d_come_to, d_least_in, d_are_begins, d_is_target, d_arrivals_of, d_pairs_of, d_pieces_for, d_mark_of, d_latest, d_laid_every, d_every_web, d_law_mill, d_law_cog, d_law_pick, d_law_rules, d_law_least, d_law_bound, d_law_firsts]
def fn1 : List He.DefD := [d_law_behind, d_law_walked, d_law_answered, d_law_is_laid, d_law, d_Kind_init, d_Table_init, d_Web_init, d_Web_eq, d_Laying_init, d_Laying_led, d_Laying_marked, d_Laying_looked, d_Laying_web, d_EveryLaying_arrival_track, d_EveryLaying_lay, d_EveryLaying_opened]
def fn : List He.DefD := fn0 ++ fn1
def fa0 : List He.Fa := [.glo "is_integer", .glo "is_within", .glo "is_bit", .glo "is_way", .glo "exits_in", .glo "need_kind", .glo "first_of", .glo "is_rule", .glo "are_rules", .glo "need_table", .glo "numbered", .glo "lots_of", .glo "come_to", .glo "least_in", .glo "are_begins", .glo "is_target", .glo "arrivals_of", .glo "pairs_of", .glo "pieces_for", .glo "mark_of", .glo "latest", .glo "laid_every", .glo "every_web", .glo "_law_mill", .glo "_law_cog", .glo "_law_pick", .glo "_law_rules", .glo "_law_least", .glo "_law_bound", .glo "_law_firsts"]
def fa1 : List He.Fa := [.glo "_law_behind", .glo "_law_walked", .glo "_law_answered", .glo "_law_is_laid", .glo "law", .glo "Kind", .glo "Table", .glo "Web", .glo "Laying", .glo "EveryLaying", .glo "LOOKING", .glo "WAY_WORDS", .cls "Kind", .mkr "Kind", .noat "Kind" "ways", .noat "Kind" "exits", .cls "Table", .mkr "Table", .noat "Table" "exits", .noat "Table" "rules", .noat "Table" "standings", .noat "Table" "ways", .cls "Web", .mkr "Web", .noat "Web" "kind", .noat "Web" "begins", .noat "Web" "pieces", .noat "Web" "entries", .noat "Web" "exits", .noat "Web" "joins"]
def fa2 : List He.Fa := [.cls "EveryLaying", .mkr "EveryLaying", .noat "EveryLaying" "kind", .noat "EveryLaying" "small", .noat "EveryLaying" "joins", .noat "EveryLaying" "arrivals", .noat "EveryLaying" "by_ways", .noat "EveryLaying" "by_arrivals", .noat "EveryLaying" "many", .meth "EveryLaying" "__init__", .meth "EveryLaying" "led", .meth "EveryLaying" "marked", .meth "EveryLaying" "looked", .meth "EveryLaying" "web", .meth "EveryLaying" "arrival_track", .meth "EveryLaying" "lay", .meth "EveryLaying" "opened", .meth "Web" "__eq__", .meth "Kind" "__init__", .meth "Table" "__init__", .meth "Web" "__init__", .meth "Laying" "__init__", .int "MOST_WAYS" 6, .int "MOST_EXITS" 36, .int "MOST_STANDINGS" 300, .int "MOST_PIECES" 1200, .int "MOST_ENTRIES" 6, .int "LOOK" 0, .int "SET" 1, .int "RESET" 2]
def fa3 : List He.Fa := [.free "isinstance", .free "len", .free "all", .free "sum", .free "max", .free "int", .free "bool", .free "str", .free "list", .free "tuple", .free "range", .free "enumerate", .free "reversed", .free "super", .free "abs"]
def fa : List He.Fa := fa0 ++ fa1 ++ fa2 ++ fa3
/-- two classes of one kind; what isinstance of an own class asks -/
def insB (K : PySem.W.Frag) (x : Str) : Bool := decide (PySem.W.findIn K (.ref (He.ga K x)) "__class__" = some (some (.builtin "object.__class__"))) && (decide (PySem.W.specialIn K (.builtin "object.__class__") "__get__" = some (some (.builtin "getset_descriptor.__get__"))) &&
  (decide (PySem.W.takesIn K (.builtin "object.__class__") = some true) && (decide (PySem.W.mroIn K (He.ga K x) (.type "object") = some true) && decide (PySem.W.kitOne K (.ref (He.ga K x)) (.ref (He.ga K x)) = some true))))
abbrev cE (K : PySem.W.Frag) : Addr := He.ga K "EveryLaying"
abbrev fE (K : PySem.W.Frag) : Addr := He.ma K (cE K) "__init__"
abbrev fL (K : PySem.W.Frag) : Addr := He.ma K (He.ga K "Laying") "__init__"
/-- the def that closes over __class__ -/
def ccOf (K : PySem.W.Frag) : Addr := match K.lookup (fE K) with
  | some ⟨_, _, .func fd, _⟩ => (match fd.closure with
    | [(_, c)] => c
    | _ => 0)
  | _ => 0
def cdOf (K : PySem.W.Frag) : Addr := match K.lookup (fE K) with
  | some ⟨_, _, .func fd, _⟩ => (match fd.code with
    | .ref c => c
    | _ => 0)
  | _ => 0
def cellB (K : PySem.W.Frag) : Bool := match K.lookup (ccOf K) with
  | some ⟨_, _, .cell (some (.ref D)), _⟩ => decide (D = cE K)
  | _ => false
def codeB (K : PySem.W.Frag) : Bool := match K.lookup (cdOf K) with
  | some ⟨_, _, .fields vs, _⟩ => (match (vs.toList[2]? : Option Value) with
    | some (Value.str file _) => decide (PySem.Challenge.pw_makesorbars_k46_whole_every_table_by_its.main.file = file)
    | _ => false)
  | _ => false
def fdB (K : PySem.W.Frag) : Bool := match K.lookup (fE K) with
  | some ⟨_, _, .func fd, _⟩ => PySem.W.codeIn K fd.code "EveryLaying.__init__" && (He.dflB K fd.defaults [] && decide (fd.code = .ref (cdOf K)))
  | _ => false
def supB (K : PySem.W.Frag) : Bool := cellB K && (codeB K && (fdB K && (PySem.W.keepIn K (.ref (fE K)) && ((PySem.W.clsIn K (cE K)).isSome && (decide (PySem.W.mroIn K (cE K) (.ref (cE K)) = some true) && (decide (PySem.W.nsIn K cStatics "thirdparty.any" = some none) &&
  (decide (PySem.W.ks_superIn K (cE K) (cE K) "__init__" = some (some (.ref (fL K)))) && (decide (PySem.W.typeIn K (.ref (fL K)) = some (.type "function")) && (PySem.W.fnIn K (fL K) && !(PySem.Challenge.pw_makesorbars_k46_whole_every_table_by_its.main.scope.names.lookup ("super" : Str)).isSome)))))))))
abbrev FnC : Type := Option (Str × Str × Arguments × FuncBody × Scope × Addr × List Str × Addr)
def fnC (K : PySem.W.Frag) : FnC := match K.lookup (fE K) with
  | some ⟨_, _, .func fd, _⟩ => some (fd.name, fd.qualname, fd.params, fd.body, fd.scope, fd.globals, fd.closure.map (·.1), fd.builtins)
  | _ => none
def fnCv : FnC := some ("__init__", "EveryLaying.__init__", defArgs s_EveryLaying_init, .stmts (defBody s_EveryLaying_init), defScope s_EveryLaying_init, mainGlobals, [cKey], builtinsNs)
def lookD : List He.Dv := [.str "look", .str "lookset", .str "lookreset", .str "lookturn"]
def waysD : List He.Dv := [.str "pass", .str "set", .str "reset", .str "turn", .str "look", .str "lookset", .str "lookreset", .str "lookturn"]
def exB (K : PySem.W.Frag) : Bool := He.tupB K "LOOKING" lookD && (He.tupB K "WAY_WORDS" waysD && (insB K "Kind" && (insB K "Table" && (insB K "Web" && (eqNeB K (He.ga K "Web") (He.ma K (He.ga K "Web") "__eq__") && supB K)))))
/-! ### the Hook -/
abbrev AlE : Type := He.AlD × Bool × FnC
/-! what the module's names reach, the ones met kept as bits of a number -/
def hasB (v a : Nat) : Bool := Nat.beq (Nat.land (Nat.shiftRight v a) 1) 1
noncomputable def addB (l : List Addr) : Nat → List Addr → Nat × List Addr := List.rec (fun v acc => (v, acc)) (fun a _ ih v acc => Bool.rec (ih (Nat.lor v (Nat.shiftLeft 1 a)) (a :: acc)) (ih v acc) (hasB v a)) l
def refsG (g : Addr → Option Obj) (a : Addr) : List Addr := match g a with
  | some o => He.refsD o
  | none => []
noncomputable def growB (g : Addr → Option Obj) (l : List Addr) : Nat → List Addr → Nat × List Addr := List.rec (fun v acc => (v, acc)) (fun a _ ih v acc => match addB (refsG g a) v acc with
  | (v2, acc2) => ih v2 acc2) l
noncomputable def goB (g : Addr → Option Obj) (n : Nat) : Nat → List Addr → List Addr := Nat.rec (fun _ fr => fr) (fun _ ih v fr => match growB g fr v [] with
  | (v2, fr2) => fr ++ ih v2 fr2) n
noncomputable def fragE (g : Addr → Option Obj) : PySem.W.Frag := He.frG g (cStatics :: goB g 5 (Nat.shiftLeft 1 mainGlobals) [mainGlobals])
noncomputable def obsE (g : Addr → Option Obj) : AlE := (He.obsD fa fn (fragE g), exB (fragE g), fnC (fragE g))
def valE : AlE := (He.valD fn, true, fnCv)
structure SaysE (K : PySem.W.Frag) : Prop where
  d : He.SaysD fa fn K
  more : exB K = true
  cl : fnC K = fnCv
noncomputable def hookE : PySem.W.Hook where
  α := AlE
  obs := fun s => obsE s.heap.get?
  val := fun _ => valE
  says := fun _ h => ∃ K : PySem.W.Frag, K.In h ∧ SaysE K
  of := fun _ _ e => ⟨_, He.frG_in, ⟨congrArg (fun z : AlE => z.1) e, congrArg (fun z : AlE => z.2.1) e, congrArg (fun z : AlE => z.2.2) e⟩⟩
  keeps := fun _ _ _ ⟨K, hK, c⟩ k => ⟨K, PySem.W.Frag.In.keeps hK k, c⟩
theorem obsE_eq {g : Addr → Option Obj} {s : Shared} (h : ∀ a, g a = s.heap.get? a) : obsE g = hookE.obs s := by
  have e : g = s.heap.get? := funext h
  rw [e] <;> rfl
/-- what every def's proof leans on -/
structure Txt (K : PySem.W.Frag) (mg : Str → Option Value) : Prop extends SaysE K where
  KX : ∃ h : Heap, K.In h ∧ h.Ns mainGlobals mg
section
variable {K : PySem.W.Frag} {mg : Str → Option Value}
theorem Txt.glo (T : Txt K mg) (i : Nat) {x : Str} (h : fa[i]? = some (.glo x)) : mg x = some (.ref (He.ga K x)) := let ⟨_, X, G⟩ := T.KX; He.glo_ok X G (T.d.fact i h)

theorem Txt.g_is_integer (T : Txt K mg) : mg "is_integer" = some (.ref (He.ga K "is_integer")) := T.glo 0 rfl
theorem Txt.g_is_within (T : Txt K mg) : mg "is_within" = some (.ref (He.ga K "is_within")) := T.glo 1 rfl
theorem Txt.g_is_bit (T : Txt K mg) : mg "is_bit" = some (.ref (He.ga K "is_bit")) := T.glo 2 rfl
theorem Txt.g_is_way (T : Txt K mg) : mg "is_way" = some (.ref (He.ga K "is_way")) := T.glo 3 rfl
theorem Txt.g_exits_in (T : Txt K mg) : mg "exits_in" = some (.ref (He.ga K "exits_in")) := T.glo 4 rfl
theorem Txt.g_need_kind (T : Txt K mg) : mg "need_kind" = some (.ref (He.ga K "need_kind")) := T.glo 5 rfl
theorem Txt.g_first_of (T : Txt K mg) : mg "first_of" = some (.ref (He.ga K "first_of")) := T.glo 6 rfl
theorem Txt.g_is_rule (T : Txt K mg) : mg "is_rule" = some (.ref (He.ga K "is_rule")) := T.glo 7 rfl
theorem Txt.g_are_rules (T : Txt K mg) : mg "are_rules" = some (.ref (He.ga K "are_rules")) := T.glo 8 rfl
theorem Txt.g_need_table (T : Txt K mg) : mg "need_table" = some (.ref (He.ga K "need_table")) := T.glo 9 rfl
theorem Txt.g_numbered (T : Txt K mg) : mg "numbered" = some (.ref (He.ga K "numbered")) := T.glo 10 rfl
theorem Txt.g_lots_of (T : Txt K mg) : mg "lots_of" = some (.ref (He.ga K "lots_of")) := T.glo 11 rfl
theorem Txt.g_come_to (T : Txt K mg) : mg "come_to" = some (.ref (He.ga K "come_to")) := T.glo 12 rfl
theorem Txt.g_least_in (T : Txt K mg) : mg "least_in" = some (.ref (He.ga K "least_in")) := T.glo 13 rfl
theorem Txt.g_are_begins (T : Txt K mg) : mg "are_begins" = some (.ref (He.ga K "are_begins")) := T.glo 14 rfl
theorem Txt.g_is_target (T : Txt K mg) : mg "is_target" = some (.ref (He.ga K "is_target")) := T.glo 15 rfl
theorem Txt.g_arrivals_of (T : Txt K mg) : mg "arrivals_of" = some (.ref (He.ga K "arrivals_of")) := T.glo 16 rfl
theorem Txt.g_pairs_of (T : Txt K mg) : mg "pairs_of" = some (.ref (He.ga K "pairs_of")) := T.glo 17 rfl
theorem Txt.g_pieces_for (T : Txt K mg) : mg "pieces_for" = some (.ref (He.ga K "pieces_for")) := T.glo 18 rfl
theorem Txt.g_mark_of (T : Txt K mg) : mg "mark_of" = some (.ref (He.ga K "mark_of")) := T.glo 19 rfl
theorem Txt.g_latest (T : Txt K mg) : mg "latest" = some (.ref (He.ga K "latest")) := T.glo 20 rfl
theorem Txt.g_laid_every (T : Txt K mg) : mg "laid_every" = some (.ref (He.ga K "laid_every")) := T.glo 21 rfl
theorem Txt.g_every_web (T : Txt K mg) : mg "every_web" = some (.ref (He.ga K "every_web")) := T.glo 22 rfl
theorem Txt.g__law_mill (T : Txt K mg) : mg "_law_mill" = some (.ref (He.ga K "_law_mill")) := T.glo 23 rfl
theorem Txt.g__law_cog (T : Txt K mg) : mg "_law_cog" = some (.ref (He.ga K "_law_cog")) := T.glo 24 rfl
theorem Txt.g__law_pick (T : Txt K mg) : mg "_law_pick" = some (.ref (He.ga K "_law_pick")) := T.glo 25 rfl
theorem Txt.g__law_rules (T : Txt K mg) : mg "_law_rules" = some (.ref (He.ga K "_law_rules")) := T.glo 26 rfl
theorem Txt.g__law_least (T : Txt K mg) : mg "_law_least" = some (.ref (He.ga K "_law_least")) := T.glo 27 rfl
theorem Txt.g__law_bound (T : Txt K mg) : mg "_law_bound" = some (.ref (He.ga K "_law_bound")) := T.glo 28 rfl
theorem Txt.g__law_firsts (T : Txt K mg) : mg "_law_firsts" = some (.ref (He.ga K "_law_firsts")) := T.glo 29 rfl
theorem Txt.g__law_behind (T : Txt K mg) : mg "_law_behind" = some (.ref (He.ga K "_law_behind")) := T.glo 30 rfl
theorem Txt.g__law_walked (T : Txt K mg) : mg "_law_walked" = some (.ref (He.ga K "_law_walked")) := T.glo 31 rfl
theorem Txt.g__law_answered (T : Txt K mg) : mg "_law_answered" = some (.ref (He.ga K "_law_answered")) := T.glo 32 rfl
theorem Txt.g__law_is_laid (T : Txt K mg) : mg "_law_is_laid" = some (.ref (He.ga K "_law_is_laid")) := T.glo 33 rfl
theorem Txt.g_law (T : Txt K mg) : mg "law" = some (.ref (He.ga K "law")) := T.glo 34 rfl
theorem Txt.g_Kind (T : Txt K mg) : mg "Kind" = some (.ref (He.ga K "Kind")) := T.glo 35 rfl
theorem Txt.g_Table (T : Txt K mg) : mg "Table" = some (.ref (He.ga K "Table")) := T.glo 36 rfl
theorem Txt.g_Web (T : Txt K mg) : mg "Web" = some (.ref (He.ga K "Web")) := T.glo 37 rfl
theorem Txt.g_Laying (T : Txt K mg) : mg "Laying" = some (.ref (He.ga K "Laying")) := T.glo 38 rfl
theorem Txt.g_EveryLaying (T : Txt K mg) : mg "EveryLaying" = some (.ref (He.ga K "EveryLaying")) := T.glo 39 rfl
theorem Txt.g_LOOKING (T : Txt K mg) : mg "LOOKING" = some (.ref (He.ga K "LOOKING")) := T.glo 40 rfl
theorem Txt.g_WAY_WORDS (T : Txt K mg) : mg "WAY_WORDS" = some (.ref (He.ga K "WAY_WORDS")) := T.glo 41 rfl
theorem Txt.cl_Kind (T : Txt K mg) : Cls K (He.ga K "Kind") := He.cls_ok (T.d.fact 42 (f := .cls "Kind") rfl)
theorem Txt.mk_Kind (T : Txt K mg) : Mk K (He.ga K "Kind") (He.ma K (He.ga K "Kind") "__init__") := He.mkr_ok (T.d.fact 43 (f := .mkr "Kind") rfl)
theorem Txt.n_Kind_ways (T : Txt K mg) : NoAttr K (He.ga K "Kind") "ways" := He.noat_ok (T.d.fact 44 (f := .noat "Kind" "ways") rfl)
theorem Txt.n_Kind_exits (T : Txt K mg) : NoAttr K (He.ga K "Kind") "exits" := He.noat_ok (T.d.fact 45 (f := .noat "Kind" "exits") rfl)
theorem Txt.cl_Table (T : Txt K mg) : Cls K (He.ga K "Table") := He.cls_ok (T.d.fact 46 (f := .cls "Table") rfl)
theorem Txt.mk_Table (T : Txt K mg) : Mk K (He.ga K "Table") (He.ma K (He.ga K "Table") "__init__") := He.mkr_ok (T.d.fact 47 (f := .mkr "Table") rfl)
theorem Txt.n_Table_exits (T : Txt K mg) : NoAttr K (He.ga K "Table") "exits" := He.noat_ok (T.d.fact 48 (f := .noat "Table" "exits") rfl)
theorem Txt.n_Table_rules (T : Txt K mg) : NoAttr K (He.ga K "Table") "rules" := He.noat_ok (T.d.fact 49 (f := .noat "Table" "rules") rfl)
theorem Txt.n_Table_standings (T : Txt K mg) : NoAttr K (He.ga K "Table") "standings" := He.noat_ok (T.d.fact 50 (f := .noat "Table" "standings") rfl)
theorem Txt.n_Table_ways (T : Txt K mg) : NoAttr K (He.ga K "Table") "ways" := He.noat_ok (T.d.fact 51 (f := .noat "Table" "ways") rfl)
theorem Txt.cl_Web (T : Txt K mg) : Cls K (He.ga K "Web") := He.cls_ok (T.d.fact 52 (f := .cls "Web") rfl)
theorem Txt.mk_Web (T : Txt K mg) : Mk K (He.ga K "Web") (He.ma K (He.ga K "Web") "__init__") := He.mkr_ok (T.d.fact 53 (f := .mkr "Web") rfl)
theorem Txt.n_Web_kind (T : Txt K mg) : NoAttr K (He.ga K "Web") "kind" := He.noat_ok (T.d.fact 54 (f := .noat "Web" "kind") rfl)
theorem Txt.n_Web_begins (T : Txt K mg) : NoAttr K (He.ga K "Web") "begins" := He.noat_ok (T.d.fact 55 (f := .noat "Web" "begins") rfl)
theorem Txt.n_Web_pieces (T : Txt K mg) : NoAttr K (He.ga K "Web") "pieces" := He.noat_ok (T.d.fact 56 (f := .noat "Web" "pieces") rfl)
theorem Txt.n_Web_entries (T : Txt K mg) : NoAttr K (He.ga K "Web") "entries" := He.noat_ok (T.d.fact 57 (f := .noat "Web" "entries") rfl)
theorem Txt.n_Web_exits (T : Txt K mg) : NoAttr K (He.ga K "Web") "exits" := He.noat_ok (T.d.fact 58 (f := .noat "Web" "exits") rfl)
theorem Txt.n_Web_joins (T : Txt K mg) : NoAttr K (He.ga K "Web") "joins" := He.noat_ok (T.d.fact 59 (f := .noat "Web" "joins") rfl)
theorem Txt.cl_EveryLaying (T : Txt K mg) : Cls K (He.ga K "EveryLaying") := He.cls_ok (T.d.fact 60 (f := .cls "EveryLaying") rfl)
theorem Txt.mk_EveryLaying (T : Txt K mg) : Mk K (He.ga K "EveryLaying") (He.ma K (He.ga K "EveryLaying") "__init__") := He.mkr_ok (T.d.fact 61 (f := .mkr "EveryLaying") rfl)
theorem Txt.n_EveryLaying_kind (T : Txt K mg) : NoAttr K (He.ga K "EveryLaying") "kind" := He.noat_ok (T.d.fact 62 (f := .noat "EveryLaying" "kind") rfl)
theorem Txt.n_EveryLaying_small (T : Txt K mg) : NoAttr K (He.ga K "EveryLaying") "small" := He.noat_ok (T.d.fact 63 (f := .noat "EveryLaying" "small") rfl)
theorem Txt.n_EveryLaying_joins (T : Txt K mg) : NoAttr K (He.ga K "EveryLaying") "joins" := He.noat_ok (T.d.fact 64 (f := .noat "EveryLaying" "joins") rfl)
theorem Txt.n_EveryLaying_arrivals (T : Txt K mg) : NoAttr K (He.ga K "EveryLaying") "arrivals" := He.noat_ok (T.d.fact 65 (f := .noat "EveryLaying" "arrivals") rfl)
theorem Txt.n_EveryLaying_by_ways (T : Txt K mg) : NoAttr K (He.ga K "EveryLaying") "by_ways" := He.noat_ok (T.d.fact 66 (f := .noat "EveryLaying" "by_ways") rfl)
theorem Txt.n_EveryLaying_by_arrivals (T : Txt K mg) : NoAttr K (He.ga K "EveryLaying") "by_arrivals" := He.noat_ok (T.d.fact 67 (f := .noat "EveryLaying" "by_arrivals") rfl)
theorem Txt.n_EveryLaying_many (T : Txt K mg) : NoAttr K (He.ga K "EveryLaying") "many" := He.noat_ok (T.d.fact 68 (f := .noat "EveryLaying" "many") rfl)
theorem Txt.m_EveryLaying_init (T : Txt K mg) : Meth K (He.ga K "EveryLaying") "__init__" (He.ma K (He.ga K "EveryLaying") "__init__") := He.meth_ok (T.d.fact 69 (f := .meth "EveryLaying" "__init__") rfl)
theorem Txt.m_EveryLaying_led (T : Txt K mg) : Meth K (He.ga K "EveryLaying") "led" (He.ma K (He.ga K "EveryLaying") "led") := He.meth_ok (T.d.fact 70 (f := .meth "EveryLaying" "led") rfl)
theorem Txt.m_EveryLaying_marked (T : Txt K mg) : Meth K (He.ga K "EveryLaying") "marked" (He.ma K (He.ga K "EveryLaying") "marked") := He.meth_ok (T.d.fact 71 (f := .meth "EveryLaying" "marked") rfl)
theorem Txt.m_EveryLaying_looked (T : Txt K mg) : Meth K (He.ga K "EveryLaying") "looked" (He.ma K (He.ga K "EveryLaying") "looked") := He.meth_ok (T.d.fact 72 (f := .meth "EveryLaying" "looked") rfl)
theorem Txt.m_EveryLaying_web (T : Txt K mg) : Meth K (He.ga K "EveryLaying") "web" (He.ma K (He.ga K "EveryLaying") "web") := He.meth_ok (T.d.fact 73 (f := .meth "EveryLaying" "web") rfl)
theorem Txt.m_EveryLaying_arrival_track (T : Txt K mg) : Meth K (He.ga K "EveryLaying") "arrival_track" (He.ma K (He.ga K "EveryLaying") "arrival_track") := He.meth_ok (T.d.fact 74 (f := .meth "EveryLaying" "arrival_track") rfl)
theorem Txt.m_EveryLaying_lay (T : Txt K mg) : Meth K (He.ga K "EveryLaying") "lay" (He.ma K (He.ga K "EveryLaying") "lay") := He.meth_ok (T.d.fact 75 (f := .meth "EveryLaying" "lay") rfl)
theorem Txt.m_EveryLaying_opened (T : Txt K mg) : Meth K (He.ga K "EveryLaying") "opened" (He.ma K (He.ga K "EveryLaying") "opened") := He.meth_ok (T.d.fact 76 (f := .meth "EveryLaying" "opened") rfl)
theorem Txt.m_Web_eq (T : Txt K mg) : Meth K (He.ga K "Web") "__eq__" (He.ma K (He.ga K "Web") "__eq__") := He.meth_ok (T.d.fact 77 (f := .meth "Web" "__eq__") rfl)
theorem Txt.m_Kind_init (T : Txt K mg) : Meth K (He.ga K "Kind") "__init__" (He.ma K (He.ga K "Kind") "__init__") := He.meth_ok (T.d.fact 78 (f := .meth "Kind" "__init__") rfl)
theorem Txt.m_Table_init (T : Txt K mg) : Meth K (He.ga K "Table") "__init__" (He.ma K (He.ga K "Table") "__init__") := He.meth_ok (T.d.fact 79 (f := .meth "Table" "__init__") rfl)
theorem Txt.m_Web_init (T : Txt K mg) : Meth K (He.ga K "Web") "__init__" (He.ma K (He.ga K "Web") "__init__") := He.meth_ok (T.d.fact 80 (f := .meth "Web" "__init__") rfl)
theorem Txt.m_Laying_init (T : Txt K mg) : Meth K (He.ga K "Laying") "__init__" (He.ma K (He.ga K "Laying") "__init__") := He.meth_ok (T.d.fact 81 (f := .meth "Laying" "__init__") rfl)
theorem Txt.i_MOST_WAYS (T : Txt K mg) : ∃ t, mg "MOST_WAYS" = some (.int 6 t) := let ⟨_, X, G⟩ := T.KX; He.int_ok X G (T.d.fact 82 (f := .int "MOST_WAYS" 6) rfl)
theorem Txt.i_MOST_EXITS (T : Txt K mg) : ∃ t, mg "MOST_EXITS" = some (.int 36 t) := let ⟨_, X, G⟩ := T.KX; He.int_ok X G (T.d.fact 83 (f := .int "MOST_EXITS" 36) rfl)
theorem Txt.i_MOST_STANDINGS (T : Txt K mg) : ∃ t, mg "MOST_STANDINGS" = some (.int 300 t) := let ⟨_, X, G⟩ := T.KX; He.int_ok X G (T.d.fact 84 (f := .int "MOST_STANDINGS" 300) rfl)
theorem Txt.i_MOST_PIECES (T : Txt K mg) : ∃ t, mg "MOST_PIECES" = some (.int 1200 t) := let ⟨_, X, G⟩ := T.KX; He.int_ok X G (T.d.fact 85 (f := .int "MOST_PIECES" 1200) rfl)
theorem Txt.i_MOST_ENTRIES (T : Txt K mg) : ∃ t, mg "MOST_ENTRIES" = some (.int 6 t) := let ⟨_, X, G⟩ := T.KX; He.int_ok X G (T.d.fact 86 (f := .int "MOST_ENTRIES" 6) rfl)
theorem Txt.i_LOOK (T : Txt K mg) : ∃ t, mg "LOOK" = some (.int 0 t) := let ⟨_, X, G⟩ := T.KX; He.int_ok X G (T.d.fact 87 (f := .int "LOOK" 0) rfl)
theorem Txt.i_SET (T : Txt K mg) : ∃ t, mg "SET" = some (.int 1 t) := let ⟨_, X, G⟩ := T.KX; He.int_ok X G (T.d.fact 88 (f := .int "SET" 1) rfl)
theorem Txt.i_RESET (T : Txt K mg) : ∃ t, mg "RESET" = some (.int 2 t) := let ⟨_, X, G⟩ := T.KX; He.int_ok X G (T.d.fact 89 (f := .int "RESET" 2) rfl)
theorem Txt.f_isinstance (T : Txt K mg) : mg "isinstance" = none := let ⟨_, X, G⟩ := T.KX; He.free_ok X G (T.d.fact 90 (f := .free "isinstance") rfl)
theorem Txt.f_len (T : Txt K mg) : mg "len" = none := let ⟨_, X, G⟩ := T.KX; He.free_ok X G (T.d.fact 91 (f := .free "len") rfl)
theorem Txt.f_all (T : Txt K mg) : mg "all" = none := let ⟨_, X, G⟩ := T.KX; He.free_ok X G (T.d.fact 92 (f := .free "all") rfl)
theorem Txt.f_sum (T : Txt K mg) : mg "sum" = none := let ⟨_, X, G⟩ := T.KX; He.free_ok X G (T.d.fact 93 (f := .free "sum") rfl)
theorem Txt.f_max (T : Txt K mg) : mg "max" = none := let ⟨_, X, G⟩ := T.KX; He.free_ok X G (T.d.fact 94 (f := .free "max") rfl)
theorem Txt.f_int (T : Txt K mg) : mg "int" = none := let ⟨_, X, G⟩ := T.KX; He.free_ok X G (T.d.fact 95 (f := .free "int") rfl)
theorem Txt.f_bool (T : Txt K mg) : mg "bool" = none := let ⟨_, X, G⟩ := T.KX; He.free_ok X G (T.d.fact 96 (f := .free "bool") rfl)
theorem Txt.f_str (T : Txt K mg) : mg "str" = none := let ⟨_, X, G⟩ := T.KX; He.free_ok X G (T.d.fact 97 (f := .free "str") rfl)
theorem Txt.f_list (T : Txt K mg) : mg "list" = none := let ⟨_, X, G⟩ := T.KX; He.free_ok X G (T.d.fact 98 (f := .free "list") rfl)
theorem Txt.f_tuple (T : Txt K mg) : mg "tuple" = none := let ⟨_, X, G⟩ := T.KX; He.free_ok X G (T.d.fact 99 (f := .free "tuple") rfl)
theorem Txt.f_range (T : Txt K mg) : mg "range" = none := let ⟨_, X, G⟩ := T.KX; He.free_ok X G (T.d.fact 100 (f := .free "range") rfl)
theorem Txt.f_enumerate (T : Txt K mg) : mg "enumerate" = none := let ⟨_, X, G⟩ := T.KX; He.free_ok X G (T.d.fact 101 (f := .free "enumerate") rfl)
theorem Txt.f_reversed (T : Txt K mg) : mg "reversed" = none := let ⟨_, X, G⟩ := T.KX; He.free_ok X G (T.d.fact 102 (f := .free "reversed") rfl)
theorem Txt.f_super (T : Txt K mg) : mg "super" = none := let ⟨_, X, G⟩ := T.KX; He.free_ok X G (T.d.fact 103 (f := .free "super") rfl)
theorem Txt.f_abs (T : Txt K mg) : mg "abs" = none := let ⟨_, X, G⟩ := T.KX; He.free_ok X G (T.d.fact 104 (f := .free "abs") rfl)
end
end Mk
namespace Mk
open PySem PySem.Spec PyProof.Rows L2
def lo0 : List PySem.Str := ["__name__", "PieceError", "BadKind", "BadTable", "BadWeb", "TooMany", "BadText", "is_integer", "is_within", "is_bit", "FIGURES", "MOST_FIGURES", "written", "Scan", "scans_of", "scan_at", "MOST_WAYS", "BARE", "LOOKING", "WAY_WORDS", "is_way", "exits_in", "Kind", "take_ways", "need_kind", "first_of", "MOST_EXITS", "MOST_STANDINGS", "rules_lines", "taken_rules"]
def lo1 : List PySem.Str := ["rules_read", "is_rule", "are_rules", "Table", "need_table", "numbered", "lots_of", "come_to", "least_in", "MOST_PIECES", "MOST_ENTRIES", "HEAD", "target_text", "parts_text", "taken_begins", "taken_counts", "taken_target", "parts_read", "are_begins", "is_target", "Web", "LOOK", "SET", "RESET", "Laying", "arrivals_of", "pairs_of", "pieces_for", "mark_of", "latest"]
def lo2 : List PySem.Str := ["EveryLaying", "laid_every", "every_web", "_law_mill", "_law_cog", "_law_pick", "_law_rules", "_law_least", "_law_bound", "_law_firsts", "_law_behind", "_law_walked", "_law_answered", "_law_is_laid"]
def loose : List PySem.Str := lo0 ++ lo1 ++ lo2
abbrev R : PySem.W.OpenRow := PySem.W.OpenLaw.row PySem.Challenge.rw_makesorbars_k46_whole_every_table_by_its
noncomputable def ob (s : PySem.W.SharedT) : AlE := obsE (HandSHeadRun.getT s)
theorem ob_eq (s : PySem.W.SharedT) : ob s = hookE.obs s.abs := obsE_eq (HandSHeadRun.getT_eq s)
theorem run (w : World) : HandSHeadRun.RunEq R (PySem.W.view R.prog [84]) hookE ob 9000 loose w := by
  intro os
  kernel_rfl
end Mk
namespace Mk
/-! ### first occurrences, numbers -/
section
variable {α β : Type} [DecidableEq α] [DecidableEq β]
def addU (acc : List α) (x : α) : List α := if x ∈ acc then acc else acc ++ [x]
def uniq (l : List α) : List α := l.foldl addU []
theorem addU_in {acc : List α} {x : α} (h : x ∈ acc) : addU acc x = acc := if_pos h
theorem addU_out {acc : List α} {x : α} (h : ¬ x ∈ acc) : addU acc x = acc ++ [x] := if_neg h
theorem mem_addU {acc : List α} {x y : α} : y ∈ addU acc x ↔ y ∈ acc ∨ y = x := by
  by_cases h : x ∈ acc
  · rw [addU_in h]
    constructor
    · exact fun z => .inl z
    · rintro (z | z)
      · exact z
      · rw [z]; exact h
  · rw [addU_out h, List.mem_append, List.mem_singleton]
theorem nd_addU {acc : List α} {x : α} (h : acc.Nodup) : (addU acc x).Nodup := by
  by_cases hx : x ∈ acc
  · rw [addU_in hx]; exact h
  · rw [addU_out hx]
    exact List.nodup_append.mpr ⟨h, by simp, fun a ha b hb => by
      rw [List.mem_singleton.mp hb]
      exact fun e => hx (e ▸ ha)⟩
theorem mem_foldU : ∀ {l acc : List α} {y : α}, y ∈ l.foldl addU acc ↔ y ∈ acc ∨ y ∈ l
  | [], acc, y => by simp
  | a :: r, acc, y => by
    rw [List.foldl_cons, mem_foldU, mem_addU, List.mem_cons]
    constructor
    · rintro ((h | h) | h)
      · exact .inl h
      · exact .inr (.inl h)
      · exact .inr (.inr h)
    · rintro (h | h | h)
      · exact .inl (.inl h)
      · exact .inl (.inr h)
      · exact .inr h
theorem nd_foldU : ∀ {l acc : List α}, acc.Nodup → (l.foldl addU acc).Nodup
  | [], _, h => h
  | a :: r, acc, h => nd_foldU (l := r) (acc := addU acc a) (nd_addU h)
theorem foldU_pre : ∀ (l acc : List α), ∃ m, l.foldl addU acc = acc ++ m
  | [], acc => ⟨[], by simp⟩
  | a :: r, acc => by
    obtain ⟨m, e⟩ := foldU_pre r (addU acc a)
    rw [List.foldl_cons, e]
    by_cases h : a ∈ acc
    · exact ⟨m, by rw [addU_in h]⟩
    · exact ⟨a :: m, by rw [addU_out h, List.append_assoc]; rfl⟩
theorem mem_uniq {l : List α} {y : α} : y ∈ uniq l ↔ y ∈ l := by
  unfold uniq
  rw [mem_foldU]
  simp
theorem nd_uniq (l : List α) : (uniq l).Nodup := nd_foldU List.nodup_nil
theorem uniq_append (a b : List α) : uniq (a ++ b) = b.foldl addU (uniq a) := List.foldl_append
theorem uniq_snoc (a : List α) (x : α) : uniq (a ++ [x]) = addU (uniq a) x := by
  rw [uniq_append]
  rfl
theorem uniq_pre (a b : List α) : ∃ m, uniq (a ++ b) = uniq a ++ m := by
  rw [uniq_append]
  exact foldU_pre _ _
theorem uniq_take_succ {l : List α} {i : Nat} {x : α} (h : l[i]? = some x) : uniq (l.take (i + 1)) = addU (uniq (l.take i)) x := by
  rw [List.take_add_one, h]
  exact uniq_snoc _ _
theorem uniq_take (l : List α) (i : Nat) : ∃ m, uniq l = uniq (l.take i) ++ m := by
  have h := uniq_pre (l.take i) (l.drop i)
  rw [List.take_append_drop] at h
  exact h
theorem foldU_nodup : ∀ {l acc : List α}, (acc ++ l).Nodup → l.foldl addU acc = acc ++ l
  | [], acc, _ => by simp
  | a :: r, acc, h => by
    have ha : ¬ a ∈ acc := fun z => by
      have := (List.nodup_append.mp h).2.2 a z a (List.mem_cons_self)
      exact this rfl
    rw [List.foldl_cons, addU_out ha, foldU_nodup (by rw [List.append_assoc]; exact h), List.append_assoc]
    rfl
theorem uniq_nodup {l : List α} (h : l.Nodup) : uniq l = l := by
  unfold uniq
  rw [foldU_nodup (by simpa using h)]
  rfl
theorem foldU_len : ∀ (l acc : List α), (l.foldl addU acc).length ≤ acc.length + l.length
  | [], acc => by simp
  | a :: r, acc => by
    rw [List.foldl_cons]
    have h := foldU_len r (addU acc a)
    have h2 : (addU acc a).length ≤ acc.length + 1 := by
      unfold addU
      split
      · omega
      · rw [List.length_append]; simp
    rw [List.length_cons]
    omega
theorem uniq_len (l : List α) : (uniq l).length ≤ l.length := by
  have := foldU_len l []
  simpa [uniq] using this
/-- a list as long as its uniq has no item twice -/
theorem nodup_of_foldU : ∀ {l acc : List α}, acc.Nodup → (l.foldl addU acc).length = acc.length + l.length → (acc ++ l).Nodup
  | [], acc, h, _ => by simpa using h
  | a :: r, acc, h, e => by
    have h2 := foldU_len r (addU acc a)
    rw [List.foldl_cons, List.length_cons] at e
    by_cases ha : a ∈ acc
    · rw [addU_in ha] at e h2
      omega
    · rw [addU_out ha] at e
      have q := nodup_of_foldU (l := r) (acc := acc ++ [a]) (by have := nd_addU (x := a) h; rwa [addU_out ha] at this) (by rw [e, List.length_append, List.length_singleton]; omega)
      rw [List.append_assoc] at q
      exact q
theorem nodup_of_uniq {l : List α} (h : (uniq l).length = l.length) : l.Nodup := by
  have := nodup_of_foldU (l := l) (acc := []) List.nodup_nil (by simpa [uniq] using h)
  simpa using this
theorem foldU_map (f : α → β) : ∀ (l : List α) (acc : List α) (acc' : List β), (∀ y, y ∈ acc' ↔ y ∈ acc.map f) → (l.map f).foldl addU acc' = ((l.foldl addU acc).drop acc.length |>.map f).foldl addU acc'
  | [], acc, acc', _ => by simp
  | a :: r, acc, acc', h => by
    rw [List.map_cons, List.foldl_cons, List.foldl_cons]
    by_cases ha : a ∈ acc
    · rw [addU_in ha, addU_in ((h _).mpr (List.mem_map_of_mem ha))]
      exact foldU_map f r acc acc' h
    · rw [addU_out ha]
      obtain ⟨m, e⟩ := foldU_pre r (acc ++ [a])
      have ih := foldU_map f r (acc ++ [a]) (addU acc' (f a)) (fun y => by
        rw [mem_addU, h, List.map_append, List.mem_append]
        simp)
      rw [ih, e]
      rw [List.drop_left, List.append_assoc, List.drop_left]
      rfl
theorem uniq_map (f : α → β) (l : List α) : uniq (l.map f) = uniq ((uniq l).map f) := by
  have h := foldU_map f l [] [] (fun y => by simp)
  simpa [uniq] using h
/-- the number of an item -/
abbrev ixU (l : List α) (x : α) : Nat := (uniq l).idxOf x
def numb (l : List α) : List Nat := l.map fun x => ixU l x
theorem numb_len (l : List α) : (numb l).length = l.length := List.length_map _
theorem idxOf_append_in {a b : List α} {x : α} (h : x ∈ a) : (a ++ b).idxOf x = a.idxOf x := by
  rw [List.idxOf_append, if_pos h]
theorem idxOf_map_inj (f : α → β) : ∀ {l : List α} {x : α}, x ∈ l → (∀ y ∈ l, f y = f x → y = x) → (l.map f).idxOf (f x) = l.idxOf x
  | [], x, h, _ => by cases h
  | a :: r, x, h, hi => by
    rw [List.map_cons, List.idxOf_cons, List.idxOf_cons]
    by_cases e : a = x
    · subst e; simp
    · have e2 : ¬ f a = f x := fun z => e (hi a List.mem_cons_self z)
      rw [beq_eq_false_iff_ne.mpr e, beq_eq_false_iff_ne.mpr e2]
      rcases List.mem_cons.mp h with z | z
      · exact absurd z.symm e
      · show _ + 1 = _ + 1
        rw [idxOf_map_inj f z fun y hy => hi y (List.mem_cons_of_mem _ hy)]
theorem nodup_map_inj (f : α → β) : ∀ {l : List α}, l.Nodup → (∀ x ∈ l, ∀ y ∈ l, f x = f y → x = y) → (l.map f).Nodup
  | [], _, _ => by simp
  | a :: r, h, hi => by
    obtain ⟨h1, h2⟩ := List.nodup_cons.mp h
    rw [List.map_cons]
    refine List.nodup_cons.mpr ⟨fun m => ?_, nodup_map_inj f h2 fun x hx y hy => hi x (List.mem_cons_of_mem _ hx) y (List.mem_cons_of_mem _ hy)⟩
    obtain ⟨b, hb, e⟩ := List.mem_map.mp m
    have := hi b (List.mem_cons_of_mem _ hb) a List.mem_cons_self e
    rw [← this] at h1
    exact h1 hb
theorem numb_map_inj (f : α → β) {l : List α} (hi : ∀ x ∈ l, ∀ y ∈ l, f x = f y → x = y) : numb (l.map f) = numb l := by
  have hn : ((uniq l).map f).Nodup := nodup_map_inj f (nd_uniq l) fun x hx y hy => hi x (mem_uniq.mp hx) y (mem_uniq.mp hy)
  have e : uniq (l.map f) = (uniq l).map f := by rw [uniq_map, uniq_nodup hn]
  unfold numb ixU
  rw [e, List.map_map]
  refine List.map_congr_left fun x hx => ?_
  exact idxOf_map_inj f (mem_uniq.mpr hx) fun y hy => hi y (mem_uniq.mp hy) x hx
theorem inj_of_nodup_map (f : α → β) : ∀ {l : List α}, (l.map f).Nodup → ∀ x ∈ l, ∀ y ∈ l, f x = f y → x = y
  | [], _, x, hx, _, _, _ => by cases hx
  | a :: r, h, x, hx, y, hy, e => by
    rw [List.map_cons] at h
    obtain ⟨h1, h2⟩ := List.nodup_cons.mp h
    rcases List.mem_cons.mp hx with rfl | hx
    · rcases List.mem_cons.mp hy with rfl | hy
      · rfl
      · exact absurd (List.mem_map.mpr ⟨y, hy, e.symm⟩) h1
    · rcases List.mem_cons.mp hy with e2 | hy
      · rw [e2] at e
        exact absurd (List.mem_map.mpr ⟨x, hx, e⟩) h1
      · exact inj_of_nodup_map f h2 x hx y hy e
/-- as many classes: the same numbers -/
theorem numb_map_same (f : α → β) {l : List α} (h : (uniq (l.map f)).length = (uniq l).length) : numb (l.map f) = numb l := by
  have h2 : ((uniq l).map f).Nodup := nodup_of_uniq (by rw [← uniq_map, h, List.length_map])
  exact numb_map_inj f fun x hx y hy => inj_of_nodup_map f h2 x (mem_uniq.mpr hx) y (mem_uniq.mpr hy)
theorem uniq_map_le (f : α → β) (l : List α) : (uniq (l.map f)).length ≤ (uniq l).length := by
  rw [uniq_map]
  have := uniq_len ((uniq l).map f)
  rw [List.length_map] at this
  exact this
theorem numb_lt {l : List α} {k : Nat} (h : k ∈ numb l) : k < (uniq l).length := by
  obtain ⟨x, hx, rfl⟩ := List.mem_map.mp h
  exact List.idxOf_lt_length_of_mem (mem_uniq.mpr hx)
theorem numb_has {l : List α} {k : Nat} (h : k < (uniq l).length) : k ∈ numb l := by
  refine List.mem_map.mpr ⟨(uniq l)[k], mem_uniq.mp (List.getElem_mem h), ?_⟩
  exact (nd_uniq l).idxOf_getElem k h
theorem numb_inj {l : List α} {x y : α} (hx : x ∈ l) (h : ixU l x = ixU l y) (hy : y ∈ l) : x = y := by
  have h1 := List.idxOf_lt_length_of_mem (mem_uniq.mpr hx)
  have h2 := List.idxOf_lt_length_of_mem (mem_uniq.mpr hy)
  have e1 := List.getElem_idxOf h1
  have e2 := List.getElem_idxOf h2
  rw [← e1, ← e2]
  congr 1
theorem numb_numb (l : List α) : numb (numb l) = numb l := numb_map_inj _ fun x hx y hy e => numb_inj hx e hy
theorem uniq_numb_len (l : List α) : (uniq (numb l)).length = (uniq l).length := by
  have e : uniq (numb l) = (uniq l).map fun x => ixU l x := by
    unfold numb
    rw [uniq_map]
    exact uniq_nodup (nodup_map_inj _ (nd_uniq l) fun x hx y hy e => numb_inj (mem_uniq.mp hx) e (mem_uniq.mp hy))
  rw [e, List.length_map]
end
end Mk
namespace Mk
/-! ### tables -/
abbrev Rule := Nat × Nat
abbrev Rules := List (List Rule)
structure OkR (e n w : Nat) (R : Rules) : Prop where
  len : R.length = n
  row : ∀ r ∈ R, r.length = w
  out : ∀ r ∈ R, ∀ p ∈ r, p.1 < e
  nxt : ∀ r ∈ R, ∀ p ∈ r, p.2 < n
abbrev rowAt (R : Rules) (s : Nat) : List Rule := R.getD s []
abbrev lt' (lots : List Nat) (s : Nat) : Nat := lots.getD s 0
def tr (lots : List Nat) (r : List Rule) : List Rule := r.map fun p => (p.1, lt' lots p.2)
def rowsOf (R : Rules) (lots : List Nat) : List (Nat × List Rule) := (List.range R.length).map fun i => (lt' lots i, tr lots (rowAt R i))
def finer (R : Rules) (lots : List Nat) : List Nat := numb (rowsOf R lots)
def lotsAt (R : Rules) : Nat → List Nat
  | 0 => List.replicate R.length 0
  | k + 1 => finer R (lotsAt R k)
def lotsF (R : Rules) : List Nat := lotsAt R R.length
theorem finer_len (R : Rules) (lots : List Nat) : (finer R lots).length = R.length := by
  unfold finer rowsOf
  rw [numb_len, List.length_map, List.length_range]
theorem lotsAt_len (R : Rules) : ∀ k, (lotsAt R k).length = R.length
  | 0 => List.length_replicate
  | k + 1 => finer_len R _
theorem rows_fst {R : Rules} {lots : List Nat} (h : lots.length = R.length) : (rowsOf R lots).map (·.1) = lots := by
  unfold rowsOf
  rw [List.map_map]
  refine List.ext_getElem (by rw [List.length_map, List.length_range, h]) fun i h1 h2 => ?_
  rw [List.getElem_map, List.getElem_range]
  show lots.getD i 0 = _
  rw [List.getD_eq_getElem?_getD, List.getElem?_eq_getElem h2]
  rfl
theorem uniq_rep : ∀ n : Nat, 0 < n → uniq (List.replicate n 0) = [0]
  | 0, h => absurd h (by omega)
  | n + 1, _ => by
    have key : ∀ m, (List.replicate m 0).foldl addU [0] = [0] := by
      intro m
      induction m with
      | zero => rfl
      | succ m ih =>
        rw [List.replicate_succ, List.foldl_cons, addU_in (by simp)]
        exact ih
    unfold uniq
    rw [List.replicate_succ, List.foldl_cons, addU_out (by simp)]
    exact key n
theorem numb_rep (n : Nat) : numb (List.replicate n 0) = List.replicate n 0 := by
  cases n with
  | zero => rfl
  | succ n =>
    unfold numb ixU
    rw [uniq_rep (n + 1) (by omega), List.map_replicate]
    rfl
theorem lotsAt_canon (R : Rules) : ∀ k, numb (lotsAt R k) = lotsAt R k
  | 0 => numb_rep _
  | k + 1 => numb_numb _
/-- how many lots -/
def cls (R : Rules) (k : Nat) : Nat := (uniq (lotsAt R k)).length
theorem cls_succ (R : Rules) (k : Nat) : cls R (k + 1) = (uniq (rowsOf R (lotsAt R k))).length := uniq_numb_len _
theorem cls_le (R : Rules) (k : Nat) : cls R k ≤ R.length := by
  have := uniq_len (lotsAt R k)
  rw [lotsAt_len] at this
  exact this
theorem cls_mono (R : Rules) (k : Nat) : cls R k ≤ cls R (k + 1) := by
  rw [cls_succ]
  have h := uniq_map_le (·.1) (rowsOf R (lotsAt R k))
  rw [rows_fst (lotsAt_len R k)] at h
  exact h
theorem lots_same {R : Rules} {k : Nat} (h : cls R (k + 1) = cls R k) : lotsAt R (k + 1) = lotsAt R k := by
  rw [cls_succ] at h
  show numb (rowsOf R (lotsAt R k)) = lotsAt R k
  have e := rows_fst (lotsAt_len R k)
  have q := numb_map_same (·.1) (l := rowsOf R (lotsAt R k)) (by rw [e]; exact h.symm)
  rw [← q, e]
  exact lotsAt_canon R k
theorem lots_stay {R : Rules} {k : Nat} (h : lotsAt R (k + 1) = lotsAt R k) : ∀ j, lotsAt R (k + j) = lotsAt R k
  | 0 => rfl
  | j + 1 => by
    show finer R (lotsAt R (k + j)) = _
    rw [lots_stay h j]
    exact h
theorem cls_zero {R : Rules} (hn : 0 < R.length) : cls R 0 = 1 := by
  unfold cls lotsAt
  rw [uniq_rep _ hn]
  rfl
theorem cls_grows {R : Rules} (hn : 0 < R.length) : ∀ k, (∀ j, j < k → cls R (j + 1) ≠ cls R j) → k + 1 ≤ cls R k
  | 0, _ => by rw [cls_zero hn]; omega
  | k + 1, h => by
    have ih := cls_grows hn k fun j hj => h j (by omega)
    have h1 := h k (by omega)
    have h2 := cls_mono R k
    omega
/-- the loop's end -/
theorem lots_exit {R : Rules} (hn : 0 < R.length) {k : Nat} (hk : ∀ j, j < k → cls R (j + 1) ≠ cls R j) (h : cls R (k + 1) = cls R k) : lotsAt R k = lotsF R := by
  have h1 := cls_grows hn k hk
  have h2 := cls_le R k
  have h3 := lots_stay (lots_same h) (R.length - k)
  rw [show k + (R.length - k) = R.length by omega] at h3
  exact h3.symm
theorem lotsF_fix {R : Rules} (hn : 0 < R.length) : finer R (lotsF R) = lotsF R := by
  by_cases h : ∃ k, k < R.length ∧ cls R (k + 1) = cls R k
  · obtain ⟨k, hk, e⟩ := h
    have h0 := lots_same e
    have h1 := lots_stay h0 (R.length - k)
    have h2 := lots_stay h0 (R.length - k + 1)
    rw [show k + (R.length - k) = R.length by omega] at h1
    rw [show k + (R.length - k + 1) = R.length + 1 by omega] at h2
    show lotsAt R (R.length + 1) = lotsAt R R.length
    rw [h1, h2]
  · have := cls_grows hn R.length fun j hj e => h ⟨j, hj, e⟩
    have h2 := cls_le R R.length
    omega
theorem lotsF_len (R : Rules) : (lotsF R).length = R.length := lotsAt_len R _
theorem lotsF_lt {R : Rules} {s : Nat} (hs : s < R.length) : lt' (lotsF R) s < R.length := by
  have h0 : (lotsF R)[s]? = some ((lotsF R)[s]'(by rw [lotsF_len]; exact hs)) := List.getElem?_eq_getElem (by rw [lotsF_len]; exact hs)
  have e : lt' (lotsF R) s = (lotsF R)[s]'(by rw [lotsF_len]; exact hs) := by
    show (lotsF R).getD s 0 = _
    rw [List.getD_eq_getElem?_getD, h0]
    rfl
  rw [e]
  have hm : (lotsF R)[s]'(by rw [lotsF_len]; exact hs) ∈ numb (lotsF R) := by
    have q : numb (lotsF R) = lotsF R := lotsAt_canon R R.length
    rw [q]
    exact List.getElem_mem _
  exact Nat.lt_of_lt_of_le (numb_lt hm) (cls_le R R.length)
/-- standings of one lot have rows of one kind -/
theorem same_lot {R : Rules} (hn : 0 < R.length) {i j : Nat} (hi : i < R.length) (hj : j < R.length) (h : lt' (lotsF R) i = lt' (lotsF R) j) : tr (lotsF R) (rowAt R i) = tr (lotsF R) (rowAt R j) := by
  have fx := lotsF_fix hn
  have at_ : ∀ k, k < R.length → lt' (lotsF R) k = ixU (rowsOf R (lotsF R)) (lt' (lotsF R) k, tr (lotsF R) (rowAt R k)) := fun k hk => by
    have e : (finer R (lotsF R))[k]? = some (ixU (rowsOf R (lotsF R)) (lt' (lotsF R) k, tr (lotsF R) (rowAt R k))) := by
      unfold finer numb
      rw [List.getElem?_map]
      have e2 : (rowsOf R (lotsF R))[k]? = some (lt' (lotsF R) k, tr (lotsF R) (rowAt R k)) := by
        unfold rowsOf
        rw [List.getElem?_map, List.getElem?_range hk]
        rfl
      rw [e2]
      rfl
    rw [fx] at e
    have e3 : (lotsF R).getD k 0 = ixU (rowsOf R (lotsF R)) (lt' (lotsF R) k, tr (lotsF R) (rowAt R k)) := by
      rw [List.getD_eq_getElem?_getD, e]
      rfl
    exact e3
  have mem : ∀ k, k < R.length → (lt' (lotsF R) k, tr (lotsF R) (rowAt R k)) ∈ rowsOf R (lotsF R) := fun k hk => List.mem_map.mpr ⟨k, List.mem_range.mpr hk, rfl⟩
  have e := h
  rw [at_ i hi, at_ j hj] at e
  have q := numb_inj (mem i hi) e (mem j hj)
  exact congrArg Prod.snd q
theorem max_numb {α : Type} [DecidableEq α] {l : List α} {m : Nat} (hm : m ∈ numb l) (h : ∀ k ∈ numb l, k ≤ m) : m + 1 = (uniq l).length := by
  have h1 := numb_lt hm
  by_cases e : m + 1 = (uniq l).length
  · exact e
  · have := h (m + 1) (numb_has (by omega))
    omega
/-! ### the standings that one comes to -/
theorem nd_sub : ∀ {l m : List Nat}, l.Nodup → (∀ x ∈ l, x ∈ m) → l.length ≤ m.length
  | [], _, _, _ => by simp
  | a :: r, m, h, hs => by
    obtain ⟨h1, h2⟩ := List.nodup_cons.mp h
    have ha := hs a List.mem_cons_self
    have q := nd_sub (l := r) (m := m.erase a) h2 fun x hx => by
      have hne : x ≠ a := fun e => h1 (e ▸ hx)
      exact (List.mem_erase_of_ne hne).mpr (hs x (List.mem_cons_of_mem _ hx))
    rw [List.length_erase_of_mem ha] at q
    have : 0 < m.length := List.length_pos_of_mem ha
    rw [List.length_cons]
    omega
theorem nd_lt {l : List Nat} {n : Nat} (h : l.Nodup) (hs : ∀ x ∈ l, x < n) : l.length ≤ n := by
  have := nd_sub (m := List.range n) h fun x hx => List.mem_range.mpr (hs x hx)
  rw [List.length_range] at this
  exact this
def repAt (R : Rules) (lot : Nat) : List Rule := rowAt R ((lotsF R).idxOf lot)
def goes (R : Rules) (o : List Nat) (r : List Rule) : List Nat := r.foldl (fun o p => addU o (lt' (lotsF R) p.2)) o
def orderStep (R : Rules) (o : List Nat) (turn : Nat) : List Nat := if turn < o.length then goes R o (repAt R (o.getD turn 0)) else o
def orderAt (R : Rules) (k : Nat) : List Nat := (List.range k).foldl (orderStep R) [lt' (lotsF R) 0]
def orderF (R : Rules) : List Nat := orderAt R R.length
theorem orderAt_succ (R : Rules) (k : Nat) : orderAt R (k + 1) = orderStep R (orderAt R k) k := by
  unfold orderAt
  rw [List.range_succ, List.foldl_append]
  rfl
theorem goes_eq (R : Rules) (o : List Nat) (r : List Rule) : goes R o r = (r.map fun p => lt' (lotsF R) p.2).foldl addU o := by
  unfold goes
  rw [List.foldl_map]
theorem goes_tr {R : Rules} {o : List Nat} {r q : List Rule} (h : tr (lotsF R) r = tr (lotsF R) q) : goes R o r = goes R o q := by
  rw [goes_eq, goes_eq]
  have e : ∀ r : List Rule, (r.map fun p => lt' (lotsF R) p.2) = (tr (lotsF R) r).map (·.2) := fun r => by
    unfold tr
    rw [List.map_map]
    rfl
  rw [e, e, h]
theorem goes_nd {R : Rules} {o : List Nat} {r : List Rule} (h : o.Nodup) : (goes R o r).Nodup := by
  rw [goes_eq]
  exact nd_foldU h
theorem goes_mem {R : Rules} {o : List Nat} {r : List Rule} {y : Nat} : y ∈ goes R o r ↔ y ∈ o ∨ ∃ p ∈ r, lt' (lotsF R) p.2 = y := by
  rw [goes_eq, mem_foldU, List.mem_map]
theorem goes_pre (R : Rules) (o : List Nat) (r : List Rule) : ∃ m, goes R o r = o ++ m := by
  rw [goes_eq]
  exact foldU_pre _ _
section
variable {e n w : Nat} {R : Rules}
theorem OkR.rowLen (h : OkR e n w R) {s : Nat} (hs : s < n) : (rowAt R s).length = w := by
  have hs' : s < R.length := by rw [h.len]; exact hs
  have q : rowAt R s = R[s] := by
    show R.getD s [] = _
    rw [List.getD_eq_getElem?_getD, List.getElem?_eq_getElem hs']
    rfl
  rw [q]
  exact h.row _ (List.getElem_mem _)
theorem rowAt_mem (R : Rules) {s : Nat} (hs : s < R.length) : rowAt R s ∈ R := by
  have q : rowAt R s = R[s] := by
    show R.getD s [] = _
    rw [List.getD_eq_getElem?_getD, List.getElem?_eq_getElem hs]
    rfl
  rw [q]
  exact List.getElem_mem _
theorem OkR.nxtAt (h : OkR e n w R) {s : Nat} {p : Rule} (hp : p ∈ rowAt R s) : p.2 < n := by
  by_cases hs : s < R.length
  · exact h.nxt _ (rowAt_mem R hs) p hp
  · have q : rowAt R s = [] := by
      show R.getD s [] = _
      rw [List.getD_eq_getElem?_getD, List.getElem?_eq_none (by omega)]
      rfl
    rw [q] at hp
    cases hp
theorem OkR.outAt (h : OkR e n w R) {s : Nat} {p : Rule} (hp : p ∈ rowAt R s) : p.1 < e := by
  by_cases hs : s < R.length
  · exact h.out _ (rowAt_mem R hs) p hp
  · have q : rowAt R s = [] := by
      show R.getD s [] = _
      rw [List.getD_eq_getElem?_getD, List.getElem?_eq_none (by omega)]
      rfl
    rw [q] at hp
    cases hp
theorem orderAt_ok (h : OkR e n w R) (hn : 0 < n) : ∀ k, (orderAt R k).Nodup ∧ ∀ x ∈ orderAt R k, ∃ s, s < n ∧ lt' (lotsF R) s = x
  | 0 => by
    refine ⟨by simp [orderAt], fun x hx => ⟨0, hn, ?_⟩⟩
    have hx : x ∈ [lt' (lotsF R) 0] := hx
    exact (List.mem_singleton.mp hx).symm
  | k + 1 => by
    obtain ⟨h1, h2⟩ := orderAt_ok h hn k
    rw [orderAt_succ]
    unfold orderStep
    split
    · refine ⟨goes_nd h1, fun x hx => ?_⟩
      rcases goes_mem.mp hx with hx | ⟨p, hp, e⟩
      · exact h2 x hx
      · exact ⟨p.2, h.nxtAt hp, e⟩
    · exact ⟨h1, h2⟩
theorem orderAt_le (h : OkR e n w R) (hn : 0 < n) (k : Nat) : (orderAt R k).length ≤ n := by
  obtain ⟨h1, h2⟩ := orderAt_ok h hn k
  refine nd_lt h1 fun x hx => ?_
  obtain ⟨s, hs, rfl⟩ := h2 x hx
  have := lotsF_lt (R := R) (s := s) (by rw [h.len]; exact hs)
  rw [h.len] at this
  exact this
theorem orderAt_pre (R : Rules) (k : Nat) : ∀ j, ∃ m, orderAt R (k + j) = orderAt R k ++ m
  | 0 => ⟨[], by simp⟩
  | j + 1 => by
    obtain ⟨m, e⟩ := orderAt_pre R k j
    show ∃ m, orderAt R (k + j + 1) = _
    rw [orderAt_succ]
    unfold orderStep
    split
    · obtain ⟨m2, e2⟩ := goes_pre R (orderAt R (k + j)) (repAt R ((orderAt R (k + j)).getD (k + j) 0))
      exact ⟨m ++ m2, by rw [e2, e, List.append_assoc]⟩
    · exact ⟨m, e⟩
/-- behind its last one nothing is come to -/
theorem orderAt_end {k : Nat} (hk : (orderAt R k).length ≤ k) : ∀ j, orderAt R (k + j) = orderAt R k
  | 0 => rfl
  | j + 1 => by
    show orderAt R (k + j + 1) = _
    rw [orderAt_succ, orderAt_end hk j]
    unfold orderStep
    rw [if_neg (by omega)]
theorem orderF_end (h : OkR e n w R) (hn : 0 < n) {k : Nat} (hk : (orderAt R k).length ≤ k) (hk2 : k ≤ n) : orderAt R k = orderF R := by
  have := orderAt_end hk (n - k)
  unfold orderF
  rw [h.len, ← this, show k + (n - k) = n by omega]
theorem orderF_zero (h : OkR e n w R) : (orderF R)[0]? = some (lt' (lotsF R) 0) := by
  obtain ⟨m, e⟩ := orderAt_pre R 0 R.length
  unfold orderF
  rw [Nat.zero_add] at e
  rw [e]
  rfl
theorem orderF_nd (h : OkR e n w R) (hn : 0 < n) : (orderF R).Nodup := (orderAt_ok h hn _).1
theorem orderF_mem (h : OkR e n w R) (hn : 0 < n) {x : Nat} (hx : x ∈ orderF R) : ∃ s, s < n ∧ lt' (lotsF R) s = x := (orderAt_ok h hn _).2 x hx
theorem orderF_le (h : OkR e n w R) (hn : 0 < n) : (orderF R).length ≤ n := orderAt_le h hn _
theorem orderF_pos (h : OkR e n w R) : 0 < (orderF R).length := by
  have := orderF_zero h
  obtain ⟨h1, _⟩ := List.getElem?_eq_some_iff.mp this
  exact h1
/-- from each lot that is come to one comes to lots that are come to -/
theorem orderF_closed (h : OkR e n w R) (hn : 0 < n) {x : Nat} (hx : x ∈ orderF R) {p : Rule} (hp : p ∈ repAt R x) : lt' (lotsF R) p.2 ∈ orderF R := by
  obtain ⟨a, ha, e⟩ := List.getElem_of_mem hx
  have han : a < n := Nat.lt_of_lt_of_le ha (orderF_le h hn)
  have hlt : a < (orderAt R a).length := by
    rcases Nat.lt_or_ge a (orderAt R a).length with z | z
    · exact z
    · have q := orderF_end h hn z (by omega)
      rw [q] at z
      omega
  have hrow : (orderAt R a).getD a 0 = x := by
    obtain ⟨m, e2⟩ := orderAt_pre R a (n - a)
    rw [show a + (n - a) = n by omega] at e2
    have e3 : orderF R = orderAt R a ++ m := by
      unfold orderF
      rw [h.len]
      exact e2
    have e4 : (orderF R)[a]? = some x := by rw [List.getElem?_eq_getElem ha, e]
    rw [e3, List.getElem?_append_left hlt] at e4
    rw [List.getD_eq_getElem?_getD, e4]
    rfl
  have hs : lt' (lotsF R) p.2 ∈ orderAt R (a + 1) := by
    rw [orderAt_succ]
    unfold orderStep
    rw [if_pos hlt, hrow]
    exact goes_mem.mpr (.inr ⟨p, hp, rfl⟩)
  obtain ⟨m, e2⟩ := orderAt_pre R (a + 1) (n - (a + 1))
  rw [show a + 1 + (n - (a + 1)) = n by omega] at e2
  unfold orderF
  rw [h.len, e2]
  exact List.mem_append_left _ hs
/-! ### the least table -/
def leastRow (R : Rules) (r : List Rule) : List Rule := r.map fun p => (p.1, (orderF R).idxOf (lt' (lotsF R) p.2))
def leastF (R : Rules) : Rules := (orderF R).map fun lot => leastRow R (repAt R lot)
theorem leastRow_tr {r q : List Rule} (h : tr (lotsF R) r = tr (lotsF R) q) : leastRow R r = leastRow R q := by
  have e : ∀ r : List Rule, leastRow R r = (tr (lotsF R) r).map fun p => (p.1, (orderF R).idxOf p.2) := fun r => by
    unfold tr leastRow
    rw [List.map_map]
    rfl
  rw [e, e, h]
theorem idx_lot {s : Nat} (hs : s < R.length) : (lotsF R).idxOf (lt' (lotsF R) s) < R.length ∧ lt' (lotsF R) ((lotsF R).idxOf (lt' (lotsF R) s)) = lt' (lotsF R) s := by
  have hs' : s < (lotsF R).length := by rw [lotsF_len]; exact hs
  have e : lt' (lotsF R) s = (lotsF R)[s] := by
    show (lotsF R).getD s 0 = _
    rw [List.getD_eq_getElem?_getD, List.getElem?_eq_getElem hs']
    rfl
  have hm : lt' (lotsF R) s ∈ lotsF R := by rw [e]; exact List.getElem_mem _
  have hlt := List.idxOf_lt_length_of_mem hm
  have q := List.getElem_idxOf hlt
  refine ⟨by rw [lotsF_len] at hlt; exact hlt, ?_⟩
  show (lotsF R).getD _ 0 = _
  rw [List.getD_eq_getElem?_getD, List.getElem?_eq_getElem hlt, q]
  rfl
theorem rep_tr (h : OkR e n w R) (hn : 0 < n) {s : Nat} (hs : s < n) : tr (lotsF R) (repAt R (lt' (lotsF R) s)) = tr (lotsF R) (rowAt R s) := by
  have hs' : s < R.length := by rw [h.len]; exact hs
  obtain ⟨h1, h2⟩ := idx_lot hs'
  exact same_lot (by omega) h1 hs' h2
theorem leastF_len (R : Rules) : (leastF R).length = (orderF R).length := List.length_map _
theorem leastF_at (h : OkR e n w R) (hn : 0 < n) {s i : Nat} (hs : s < n) (hi : (orderF R)[i]? = some (lt' (lotsF R) s)) : rowAt (leastF R) i = leastRow R (rowAt R s) := by
  show (leastF R).getD i [] = _
  unfold leastF
  rw [List.getD_eq_getElem?_getD, List.getElem?_map, hi]
  exact leastRow_tr (rep_tr h hn hs)
theorem leastF_ok (h : OkR e n w R) (hn : 0 < n) : OkR e (orderF R).length w (leastF R) := by
  refine ⟨leastF_len R, fun r hr => ?_, fun r hr p hp => ?_, fun r hr p hp => ?_⟩
  all_goals
    obtain ⟨lot, hl, rfl⟩ := List.mem_map.mp hr
    obtain ⟨s, hs, rfl⟩ := orderF_mem h hn hl
  · unfold leastRow
    rw [List.length_map]
    have h1 := (idx_lot (R := R) (s := s) (by rw [h.len]; exact hs)).1
    rw [h.len] at h1
    exact h.rowLen h1
  · obtain ⟨q, hq, rfl⟩ := List.mem_map.mp hp
    exact h.outAt (p := q) (s := (lotsF R).idxOf (lt' (lotsF R) s)) hq
  · obtain ⟨q, hq, rfl⟩ := List.mem_map.mp hp
    exact List.idxOf_lt_length_of_mem (orderF_closed h hn hl hq)
/-- a standing of the table, one of the least one -/
def Sim (n : Nat) (R : Rules) (s i : Nat) : Prop := s < n ∧ (orderF R)[i]? = some (lt' (lotsF R) s)
abbrev ruleAt (R : Rules) (s x : Nat) : Rule := (rowAt R s).getD x (0, 0)
theorem ruleAt_mem (h : OkR e n w R) {s x : Nat} (hs : s < n) (hx : x < w) : ruleAt R s x ∈ rowAt R s := by
  have hx' : x < (rowAt R s).length := by rw [h.rowLen hs]; exact hx
  show (rowAt R s).getD x (0, 0) ∈ _
  rw [List.getD_eq_getElem?_getD, List.getElem?_eq_getElem hx']
  exact List.getElem_mem _
theorem sim_zero (h : OkR e n w R) (hn : 0 < n) : Sim n R 0 0 := ⟨hn, orderF_zero h⟩
theorem sim_step (h : OkR e n w R) (hn : 0 < n) {s i x : Nat} (q : Sim n R s i) (hx : x < w) : (ruleAt (leastF R) i x).1 = (ruleAt R s x).1 ∧ Sim n R (ruleAt R s x).2 (ruleAt (leastF R) i x).2 := by
  obtain ⟨hs, hi⟩ := q
  have er := leastF_at h hn hs hi
  have hm := ruleAt_mem h hs hx
  have hx' : x < (rowAt R s).length := by rw [h.rowLen hs]; exact hx
  have e1 : ruleAt (leastF R) i x = ((ruleAt R s x).1, (orderF R).idxOf (lt' (lotsF R) (ruleAt R s x).2)) := by
    show (rowAt (leastF R) i).getD x (0, 0) = _
    rw [er]
    unfold leastRow
    rw [List.getD_eq_getElem?_getD, List.getElem?_map, List.getElem?_eq_getElem hx']
    show _ = (((rowAt R s).getD x (0, 0)).1, (orderF R).idxOf (lt' (lotsF R) ((rowAt R s).getD x (0, 0)).2))
    rw [List.getD_eq_getElem?_getD, List.getElem?_eq_getElem hx']
    rfl
  rw [e1]
  refine ⟨rfl, h.nxtAt hm, ?_⟩
  -- the next lot is come to
  have hin : lt' (lotsF R) (ruleAt R s x).2 ∈ orderF R := by
    have hmem : lt' (lotsF R) s ∈ orderF R := List.mem_of_getElem? hi
    have t := rep_tr h hn hs
    have hm2 : ((ruleAt R s x).1, lt' (lotsF R) (ruleAt R s x).2) ∈ tr (lotsF R) (rowAt R s) := List.mem_map.mpr ⟨_, hm, rfl⟩
    rw [← t] at hm2
    obtain ⟨p, hp, ep⟩ := List.mem_map.mp hm2
    have e2 : lt' (lotsF R) p.2 = lt' (lotsF R) (ruleAt R s x).2 := congrArg Prod.snd ep
    rw [← e2]
    exact orderF_closed h hn hmem hp
  have hlt := List.idxOf_lt_length_of_mem hin
  rw [List.getElem?_eq_getElem hlt, List.getElem_idxOf hlt]
/-! ### the program's own way -/
def visit (R : Rules) (found : List Nat) (at_ : Nat) : List Nat := (rowAt R (found.getD at_ 0)).foldl (fun f p => if lt' (lotsF R) p.2 ∈ f.map (lt' (lotsF R)) then f else f ++ [p.2]) found
theorem visit_map (R : Rules) : ∀ (r : List Rule) (f : List Nat), (r.foldl (fun f p => if lt' (lotsF R) p.2 ∈ f.map (lt' (lotsF R)) then f else f ++ [p.2]) f).map (lt' (lotsF R)) = goes R (f.map (lt' (lotsF R))) r
  | [], f => rfl
  | p :: r, f => by
    rw [List.foldl_cons, visit_map R r]
    unfold goes
    rw [List.foldl_cons]
    congr 1
    unfold addU
    split
    · rfl
    · rw [List.map_append]
      rfl
theorem visit_step (h : OkR e n w R) (hn : 0 < n) {found : List Nat} {k : Nat} (hk : k < found.length) (hf : ∀ s ∈ found, s < n) : (visit R found k).map (lt' (lotsF R)) = orderStep R (found.map (lt' (lotsF R))) k := by
  unfold visit orderStep
  rw [visit_map, List.length_map, if_pos hk]
  have e1 : found.getD k 0 = found[k] := by
    rw [List.getD_eq_getElem?_getD, List.getElem?_eq_getElem hk]
    rfl
  have e2 : (found.map (lt' (lotsF R))).getD k 0 = lt' (lotsF R) found[k] := by
    rw [List.getD_eq_getElem?_getD, List.getElem?_map, List.getElem?_eq_getElem hk]
    rfl
  rw [e1, e2]
  exact (goes_tr (rep_tr h hn (hf _ (List.getElem_mem _)))).symm
theorem visit_lt (h : OkR e n w R) {found : List Nat} {k : Nat} (hf : ∀ s ∈ found, s < n) : ∀ s ∈ visit R found k, s < n := by
  unfold visit
  have key : ∀ (r : List Rule) (f : List Nat), (∀ p ∈ r, p.2 < n) → (∀ s ∈ f, s < n) → ∀ s ∈ r.foldl (fun f p => if lt' (lotsF R) p.2 ∈ f.map (lt' (lotsF R)) then f else f ++ [p.2]) f, s < n := by
    intro r
    induction r with
    | nil => intro f _ hf; exact hf
    | cons p r ih =>
      intro f hr hf
      rw [List.foldl_cons]
      refine ih _ (fun q hq => hr q (List.mem_cons_of_mem _ hq)) fun s hs => ?_
      split at hs
      · exact hf s hs
      · rcases List.mem_append.mp hs with z | z
        · exact hf s z
        · rw [List.mem_singleton.mp z]
          exact hr p List.mem_cons_self
  exact key _ _ (fun p hp => h.nxtAt hp) hf
theorem least_prog (h : OkR e n w R) (hn : 0 < n) {found : List Nat} (hf : ∀ s ∈ found, s < n) (ho : found.map (lt' (lotsF R)) = orderF R) : (found.map fun s => leastRow R (rowAt R s)) = leastF R := by
  unfold leastF
  rw [← ho, List.map_map]
  refine List.map_congr_left fun s hs => ?_
  exact (leastRow_tr (rep_tr h hn (hf s hs))).symm
end
end Mk
namespace Mk
/-! ### the laying, as plain functions -/
inductive Tg where
  | ex (n : Nat)
  | pw (p k : Nat)
deriving DecidableEq
def Tg.ok (e pc w : Nat) : Tg → Prop
  | .ex n => n < e
  | .pw p k => p < pc ∧ k < w
abbrev Arr := Nat × Option Nat
/-- the changes of standing, as they come -/
def chgRow (s : Nat) (r : List Rule) : List (Nat × Nat) := (r.filter fun p => decide (p.2 ≠ s)).map fun p => (p.2, p.1)
def chg (S : Rules) : List (Nat × Nat) := (List.range S.length).flatMap fun s => chgRow s (rowAt S s)
def arrU (S : Rules) : List (Nat × Nat) := uniq (chg S)
def arrF (S : Rules) : List Arr := (arrU S).map (fun q => (q.1, some q.2)) ++ (if 0 ∈ (arrU S).map (·.1) then [] else [(0, none)])
def pairsL (m : Nat) : List (Nat × Nat) := (List.range m).flatMap fun i => (List.range' (i + 1) (m - (i + 1))).map fun j => (i, j)
def pIdx (m i j : Nat) : Nat := (pairsL m).idxOf (i, j)
def fst3 (way : Nat) : Nat := if way = 0 then 0 else way + 1
abbrev St2 := List Tg × Tg
def led (w : Nat) (J : List Tg) (p x : Nat) (t : Tg) : List Tg := J.set (w + p * 4 + x) t
def markStep (w : Nat) (a : St2) (m : Nat × Nat) : St2 := (led w a.1 m.1 (fst3 m.2) a.2, .pw m.1 m.2)
def marked (w : Nat) (J : List Tg) (ms : List (Nat × Nat)) (t : Tg) : St2 := ms.reverse.foldl (markStep w) (J, t)
def markOf (pc : Nat → Nat → Nat) (one other : Nat) : Nat × Nat := if one < other then (pc one other, 1) else (pc other one, 2)
def looked (w : Nat) (J : List Tg) (p : Nat) (unset told : Tg) : List Tg := led w (led w J p 0 unset) p 1 told
def tgAt (f : List Tg) (i : Nat) : Tg := f.getD i (.ex 0)
def stageStep (w : Nat) (pc : Nat → Nat → Nat) (k : Nat) (f : List Tg) (a : List Tg × List Tg) (one : Nat) : List Tg × List Tg := (looked w a.1 (pc one k) (tgAt f k) (tgAt f one), a.2 ++ [.pw (pc one k) 0])
def stage (w : Nat) (pc : Nat → Nat → Nat) (k : Nat) (a : List Tg × List Tg) : List Tg × List Tg := (List.range k).foldl (stageStep w pc k a.2) (a.1, [])
def latestA (w : Nat) (pc : Nat → Nat → Nat) (J : List Tg) (ts : List Tg) (i : Nat) : List Tg × List Tg := (List.range i).foldl (fun a i => stage w pc (ts.length - 1 - i) a) (J, ts)
def latest (w : Nat) (pc : Nat → Nat → Nat) (J : List Tg) (ts : List Tg) : St2 := ((latestA w pc J ts (ts.length - 1)).1, tgAt (latestA w pc J ts (ts.length - 1)).2 0)
def others (m at_ : Nat) : List Nat := (List.range m).filter fun o => decide (o ≠ at_)
def track (w m : Nat) (pa : Nat → Nat → Nat) (J : List Tg) (at_ out : Nat) : St2 := marked w J ((others m at_).map (markOf pa at_)) (.ex out)
def knownStep (w : Nat) (pa : Nat → Nat → Nat) (m : Nat) (a : List Tg × List (Option Tg)) (q : Arr × Nat) : List Tg × List (Option Tg) := match q.1.2 with
  | none => (a.1, a.2 ++ [none])
  | some out => ((track w m pa a.1 q.2 out).1, a.2 ++ [some (track w m pa a.1 q.2 out).2])
def knownA (w : Nat) (pa : Nat → Nat → Nat) (A : List Arr) (J : List Tg) (i : Nat) : List Tg × List (Option Tg) := (A.zipIdx.take i).foldl (knownStep w pa A.length) (J, [])
def trackOf (A : List Arr) (kn : List (Option Tg)) (s : Nat) (p : Rule) : Tg := if p.2 = s then .ex p.1 else (kn.getD (A.idxOf (p.2, some p.1)) none).getD (.ex 0)
def homeStep (w : Nat) (pc : Nat → Nat → Nat → Nat) (A : List Arr) (kn : List (Option Tg)) (a : List Tg × List Tg) (q : List Rule × Nat) : List Tg × List Tg :=
  ((latest w (pc q.2) a.1 (q.1.map (trackOf A kn q.2))).1, a.2 ++ [(latest w (pc q.2) a.1 (q.1.map (trackOf A kn q.2))).2])
def homeA (w : Nat) (pc : Nat → Nat → Nat → Nat) (A : List Arr) (kn : List (Option Tg)) (S : Rules) (J : List Tg) (i : Nat) : List Tg × List Tg := (S.zipIdx.take i).foldl (homeStep w pc A kn) (J, [])
def entryMarks (n w : Nat) (pc : Nat → Nat → Nat → Nat) (way : Nat) : List (Nat × Nat) := (List.range n).flatMap fun s => (others w way).map (markOf (pc s) way)
def entryStep (n w : Nat) (pc : Nat → Nat → Nat → Nat) (center : Tg) (J : List Tg) (way : Nat) : List Tg := (marked w J (entryMarks n w pc way) center).1.set way (marked w J (entryMarks n w pc way) center).2
def lay (w : Nat) (pc : Nat → Nat → Nat → Nat) (pa : Nat → Nat → Nat) (A : List Arr) (S : Rules) (J : List Tg) : List Tg :=
  let a1 := knownA w pa A J A.length
  let a2 := homeA w pc A a1.2 S a1.1 S.length
  let a3 := latest w pa a2.1 (A.map fun q => tgAt a2.2 q.1)
  (List.range w).foldl (entryStep S.length w pc a3.2) a3.1
def manyF (n w : Nat) : Nat := n * w * (w - 1) / 2
def pwF (n w s i j : Nat) : Nat := pIdx w i j * n + s
def paF (n w m i j : Nat) : Nat := manyF n w + pIdx m i j
def piecesF (n w m : Nat) : Nat := manyF n w + m * (m - 1) / 2
def layF (S : Rules) (w : Nat) : List Tg := lay w (pwF S.length w) (paF S.length w (arrF S).length) (arrF S) S (List.replicate (w + piecesF S.length w (arrF S).length * 4) (.ex 0))
theorem led_len {w p x : Nat} {J : List Tg} {t : Tg} : (led w J p x t).length = J.length := List.length_set
theorem marked_len {w : Nat} {t : Tg} : ∀ {ms : List (Nat × Nat)} {J : List Tg}, (marked w J ms t).1.length = J.length := by
  intro ms J
  unfold marked
  generalize ms.reverse = l
  have key : ∀ (l : List (Nat × Nat)) (a : St2), (l.foldl (markStep w) a).1.length = a.1.length := by
    intro l
    induction l with
    | nil => intro a; rfl
    | cons m l ih =>
      intro a
      rw [List.foldl_cons, ih]
      exact led_len
  exact key l (J, t)
theorem looked_len {w p : Nat} {J : List Tg} {a b : Tg} : (looked w J p a b).length = J.length := by
  unfold looked
  rw [led_len, led_len]
theorem stage_len {w k : Nat} {pc : Nat → Nat → Nat} {a : List Tg × List Tg} : (stage w pc k a).1.length = a.1.length ∧ (stage w pc k a).2.length = k := by
  have key : ∀ (l : List Nat) (f : List Tg) (b : List Tg × List Tg), (l.foldl (stageStep w pc k f) b).1.length = b.1.length ∧ (l.foldl (stageStep w pc k f) b).2.length = b.2.length + l.length := by
    intro l f
    induction l with
    | nil => intro b; exact ⟨rfl, rfl⟩
    | cons m l ih =>
      intro b
      rw [List.foldl_cons]
      refine ⟨(ih _).1.trans looked_len, (ih _).2.trans ?_⟩
      show (b.2 ++ [_]).length + l.length = _
      simp
      omega
  have := key (List.range k) a.2 (a.1, [])
  unfold stage
  refine ⟨this.1, this.2.trans ?_⟩
  simp
theorem latestA_len {w : Nat} {pc : Nat → Nat → Nat} {J ts : List Tg} : ∀ i, i ≤ ts.length - 1 → (latestA w pc J ts i).1.length = J.length ∧ (latestA w pc J ts i).2.length = ts.length - i
  | 0, _ => ⟨rfl, rfl⟩
  | i + 1, h => by
    unfold latestA
    rw [List.range_succ, List.foldl_append]
    show (stage w pc (ts.length - 1 - i) (latestA w pc J ts i)).1.length = _ ∧ (stage w pc (ts.length - 1 - i) (latestA w pc J ts i)).2.length = _
    have := stage_len (w := w) (k := ts.length - 1 - i) (pc := pc) (a := latestA w pc J ts i)
    refine ⟨this.1.trans (latestA_len i (by omega)).1, this.2.trans (by omega)⟩
theorem latest_len {w : Nat} {pc : Nat → Nat → Nat} {J ts : List Tg} : (latest w pc J ts).1.length = J.length := (latestA_len _ (Nat.le_refl _)).1
/-! ### the pairs -/
theorem mem_pairsL {m : Nat} {q : Nat × Nat} : q ∈ pairsL m ↔ q.1 < q.2 ∧ q.2 < m := by
  obtain ⟨i, j⟩ := q
  unfold pairsL
  simp only [List.mem_flatMap, List.mem_range, List.mem_map, List.mem_range'_1, Prod.mk.injEq]
  constructor
  · rintro ⟨a, ha, b, ⟨h1, h2⟩, rfl, rfl⟩
    omega
  · rintro ⟨h1, h2⟩
    exact ⟨i, by omega, j, ⟨by omega, by omega⟩, rfl, rfl⟩
theorem nd_pairsTo (m : Nat) : ∀ i, ((List.range i).flatMap fun i => (List.range' (i + 1) (m - (i + 1))).map fun j => (i, j)).Nodup
  | 0 => List.nodup_nil
  | i + 1 => by
    rw [List.range_succ, List.flatMap_append]
    refine List.nodup_append.mpr ⟨nd_pairsTo m i, ?_, fun a ha b hb => ?_⟩
    · simp only [List.flatMap_cons, List.flatMap_nil, List.append_nil]
      exact nodup_map_inj _ (List.nodup_range') fun x _ y _ e => (Prod.mk.inj e).2
    · simp only [List.flatMap_cons, List.flatMap_nil, List.append_nil] at hb
      obtain ⟨j, hj, rfl⟩ := List.mem_map.mp hb
      obtain ⟨i', hi', h⟩ := List.mem_flatMap.mp ha
      obtain ⟨j', hj', rfl⟩ := List.mem_map.mp h
      intro e
      have := (Prod.mk.inj e).1
      have := List.mem_range.mp hi'
      omega
theorem nd_pairsL (m : Nat) : (pairsL m).Nodup := nd_pairsTo m m
theorem tri (m : Nat) : m * (m - 1) / 2 + m = (m + 1) * m / 2 := by
  have h : (m + 1) * m = m * (m - 1) + m * 2 := by
    cases m with
    | zero => rfl
    | succ k =>
      show (k + 1 + 1) * (k + 1) = (k + 1) * k + (k + 1) * 2
      rw [← Nat.mul_add, Nat.mul_comm]
  rw [h, Nat.add_mul_div_right _ _ (by decide : 0 < 2)]
theorem sum_down : ∀ m : Nat, ((List.range m).map fun i => m - (i + 1)).sum = m * (m - 1) / 2
  | 0 => rfl
  | m + 1 => by
    have ih := sum_down m
    rw [List.range_succ_eq_map, List.map_cons, List.sum_cons, List.map_map]
    have e : ((fun i => m + 1 - (i + 1)) ∘ Nat.succ) = fun i => m - (i + 1) := by
      funext i
      show m + 1 - (i + 1 + 1) = m - (i + 1)
      omega
    rw [e, ih]
    have := tri m
    show m + 1 - (0 + 1) + m * (m - 1) / 2 = (m + 1) * m / 2
    omega
theorem pairsL_len (m : Nat) : (pairsL m).length = m * (m - 1) / 2 := by
  unfold pairsL
  rw [List.length_flatMap, ← sum_down m]
  congr 1
  refine List.map_congr_left fun i _ => ?_
  rw [List.length_map, List.length_range']
/-! ### the laying's steps -/
section
variable {w : Nat} {pc : Nat → Nat → Nat → Nat} {pa : Nat → Nat → Nat} {A : List Arr} {S : Rules} {J : List Tg} {kn : List (Option Tg)}
theorem knownA_succ {i : Nat} {q : Arr} (h : A[i]? = some q) : knownA w pa A J (i + 1) = knownStep w pa A.length (knownA w pa A J i) (q, i) := by
  have hz : A.zipIdx[i]? = some (q, i) := by rw [List.getElem?_zipIdx, h]; simp
  unfold knownA
  rw [List.take_succ, hz, List.foldl_append]
  rfl
theorem homeA_succ {i : Nat} {r : List Rule} (h : S[i]? = some r) : homeA w pc A kn S J (i + 1) = homeStep w pc A kn (homeA w pc A kn S J i) (r, i) := by
  have hz : S.zipIdx[i]? = some (r, i) := by rw [List.getElem?_zipIdx, h]; simp
  unfold homeA
  rw [List.take_succ, hz, List.foldl_append]
  rfl
theorem knownStep_len {m : Nat} {a : List Tg × List (Option Tg)} {q : Arr × Nat} : (knownStep w pa m a q).1.length = a.1.length ∧ (knownStep w pa m a q).2.length = a.2.length + 1 := by
  obtain ⟨⟨l, o⟩, i⟩ := q
  cases o with
  | none => exact ⟨rfl, by simp [knownStep]⟩
  | some out => exact ⟨marked_len, by simp [knownStep]⟩
theorem knownA_len : ∀ i, i ≤ A.length → (knownA w pa A J i).1.length = J.length ∧ (knownA w pa A J i).2.length = i
  | 0, _ => ⟨rfl, rfl⟩
  | i + 1, h => by
    have hq : A[i]? = some A[i] := List.getElem?_eq_getElem (by omega)
    rw [knownA_succ hq]
    have ih := knownA_len i (by omega)
    exact ⟨knownStep_len.1.trans ih.1, knownStep_len.2.trans (by rw [ih.2])⟩
theorem homeA_len : ∀ i, i ≤ S.length → (homeA w pc A kn S J i).1.length = J.length ∧ (homeA w pc A kn S J i).2.length = i
  | 0, _ => ⟨rfl, rfl⟩
  | i + 1, h => by
    have hq : S[i]? = some S[i] := List.getElem?_eq_getElem (by omega)
    rw [homeA_succ hq]
    have ih := homeA_len i (by omega)
    refine ⟨latest_len.trans ih.1, ?_⟩
    show ((homeA w pc A kn S J i).2 ++ [_]).length = _
    rw [List.length_append, ih.2]
    rfl
theorem knownStep_pre {m : Nat} {a : List Tg × List (Option Tg)} {q : Arr × Nat} : ∃ r, (knownStep w pa m a q).2 = a.2 ++ [r] := by
  obtain ⟨⟨l, o⟩, i⟩ := q
  cases o with
  | none => exact ⟨_, rfl⟩
  | some out => exact ⟨_, rfl⟩
theorem knownA_pre (i : Nat) : ∀ k, i + k ≤ A.length → ∃ r, (knownA w pa A J (i + k)).2 = (knownA w pa A J i).2 ++ r
  | 0, _ => ⟨[], by simp⟩
  | k + 1, h => by
    obtain ⟨r, hr⟩ := knownA_pre i k (by omega)
    have hq : A[i + k]? = some A[i + k] := List.getElem?_eq_getElem (by omega)
    rw [show i + (k + 1) = i + k + 1 from rfl, knownA_succ hq]
    obtain ⟨r2, h2⟩ := knownStep_pre (w := w) (pa := pa) (m := A.length) (a := knownA w pa A J (i + k)) (q := (A[i + k], i + k))
    exact ⟨r ++ [r2], by rw [h2, hr, List.append_assoc]⟩
/-- an arrival that has an exit has a track -/
theorem known_some {i l o : Nat} (h : A[i]? = some (l, some o)) : (knownA w pa A J A.length).2[i]? = some (some (track w A.length pa (knownA w pa A J i).1 i o).2) := by
  have hi := (List.getElem?_eq_some_iff.mp h).1
  obtain ⟨r, hr⟩ := knownA_pre (w := w) (pa := pa) (A := A) (J := J) (i + 1) (A.length - (i + 1)) (by omega)
  rw [show i + 1 + (A.length - (i + 1)) = A.length by omega] at hr
  rw [hr, knownA_succ h]
  have hl := (knownA_len (w := w) (pa := pa) (A := A) (J := J) i (by omega)).2
  show ((knownA w pa A J i).2 ++ [some _] ++ r)[i]? = _
  rw [List.getElem?_append_left (by rw [List.length_append, hl]; simp), List.getElem?_append_right (by omega), hl]
  simp
end
end Mk
namespace Mk
/-! ### the begins -/
def begStep (fa : Nat × Nat → Nat) (first : Nat) (b : List Nat) (q : Nat × Nat) : List Nat := b.set (fa q) (if q.1 = first then 1 else 0)
def begTo (many m : Nat) (fa : Nat × Nat → Nat) (first i : Nat) : List Nat := ((pairsL m).take i).foldl (begStep fa first) (List.replicate many 0)
def begF (many m : Nat) (fa : Nat × Nat → Nat) (first : Nat) : List Nat := (pairsL m).foldl (begStep fa first) (List.replicate many 0)
theorem begTo_succ {many m first i : Nat} {fa : Nat × Nat → Nat} {q : Nat × Nat} (h : (pairsL m)[i]? = some q) : begTo many m fa first (i + 1) = begStep fa first (begTo many m fa first i) q := by
  unfold begTo
  rw [List.take_succ, h, List.foldl_append]
  rfl
theorem fold_beg_len {fa : Nat × Nat → Nat} {first : Nat} : ∀ (l : List (Nat × Nat)) (b : List Nat), (l.foldl (begStep fa first) b).length = b.length
  | [], _ => rfl
  | q :: l, b => by
    rw [List.foldl_cons, fold_beg_len l]
    exact List.length_set
theorem begTo_len {many m first i : Nat} {fa : Nat × Nat → Nat} : (begTo many m fa first i).length = many := by
  unfold begTo
  rw [fold_beg_len, List.length_replicate]
theorem begF_len {many m first : Nat} {fa : Nat × Nat → Nat} : (begF many m fa first).length = many := by
  unfold begF
  rw [fold_beg_len, List.length_replicate]
theorem fold_beg_le {fa : Nat × Nat → Nat} {first : Nat} : ∀ (l : List (Nat × Nat)) (b : List Nat), (∀ x ∈ b, x ≤ 1) → ∀ x ∈ l.foldl (begStep fa first) b, x ≤ 1
  | [], _, h => h
  | q :: l, b, h => fold_beg_le l _ fun x hx => by
    rcases List.mem_or_eq_of_mem_set hx with hx | hx
    · exact h x hx
    · rw [hx]
      split <;> omega
theorem begF_le {many m first : Nat} {fa : Nat × Nat → Nat} : ∀ x ∈ begF many m fa first, x ≤ 1 := fold_beg_le _ _ fun x hx => by
  rw [(List.mem_replicate.mp hx).2]
  omega
/-- what stands in the end at a pair's place -/
theorem fold_beg_at {fa : Nat × Nat → Nat} {first : Nat} : ∀ (l : List (Nat × Nat)) (b : List Nat), (∀ p ∈ l, ∀ q ∈ l, fa p = fa q → p = q) → ∀ q ∈ l, fa q < b.length → (l.foldl (begStep fa first) b)[fa q]? = some (if q.1 = first then 1 else 0)
  | [], _, _, q, hq, _ => absurd hq (by simp)
  | p :: l, b, hi, q, hq, hb => by
    rw [List.foldl_cons]
    by_cases h : q ∈ l
    · exact fold_beg_at l _ (fun p hp q hq => hi p (List.mem_cons_of_mem _ hp) q (List.mem_cons_of_mem _ hq)) q h (by rw [show (begStep fa first b p).length = b.length from List.length_set]; exact hb)
    · have e : q = p := by
        rcases List.mem_cons.mp hq with e | e
        · exact e
        · exact absurd e h
      subst e
      have key : ∀ (m : List (Nat × Nat)) (c : List Nat), (∀ r ∈ m, fa r ≠ fa q) → (m.foldl (begStep fa first) c)[fa q]? = c[fa q]? := by
        intro m
        induction m with
        | nil => intro c _; rfl
        | cons r m ih =>
          intro c hm
          rw [List.foldl_cons, ih _ fun r' hr' => hm r' (List.mem_cons_of_mem _ hr')]
          exact List.getElem?_set_ne (hm r List.mem_cons_self)
      rw [key l _ fun r hr e => h (by rw [← hi r (List.mem_cons_of_mem _ hr) q List.mem_cons_self e]; exact hr)]
      exact List.getElem?_set_self hb
end Mk
namespace Mk
/-! ### the laying as a list of writes -/
abbrev Wr := Nat × Tg
def putW (J : List Tg) (q : Wr) : List Tg := J.set q.1 q.2
def putsW (J : List Tg) (W : List Wr) : List Tg := W.foldl putW J
theorem putsW_len : ∀ {W : List Wr} {J : List Tg}, (putsW J W).length = J.length
  | [], _ => rfl
  | q :: W, J => by
    show (putsW (putW J q) W).length = _
    rw [putsW_len]
    exact List.length_set
theorem putsW_app {J : List Tg} {a b : List Wr} : putsW J (a ++ b) = putsW (putsW J a) b := List.foldl_append
/-- two writes at one place have one target -/
def Cons (W : List Wr) : Prop := ∀ q ∈ W, ∀ r ∈ W, q.1 = r.1 → q.2 = r.2
theorem putsW_get : ∀ {W : List Wr} {J : List Tg} {i : Nat}, i < J.length → (∃ t, (i, t) ∈ W ∧ (putsW J W)[i]? = some t) ∨ ((∀ t, (i, t) ∉ W) ∧ (putsW J W)[i]? = J[i]?)
  | [], J, i, _ => Or.inr ⟨fun t h => by simp at h, rfl⟩
  | q :: W, J, i, hi => by
    have e : putsW J (q :: W) = putsW (putW J q) W := rfl
    have hl : i < (putW J q).length := by
      show i < (J.set q.1 q.2).length
      rw [List.length_set]
      exact hi
    rcases putsW_get (W := W) (J := putW J q) hl with ⟨t, h1, h2⟩ | ⟨h1, h2⟩
    · exact Or.inl ⟨t, List.mem_cons_of_mem _ h1, by rw [e]; exact h2⟩
    · by_cases hq : q.1 = i
      · subst hq
        refine Or.inl ⟨q.2, List.mem_cons.mpr (Or.inl rfl), ?_⟩
        rw [e, h2]
        show (J.set q.1 q.2)[q.1]? = _
        rw [List.getElem?_set_self hi]
      · refine Or.inr ⟨fun t ht => ?_, ?_⟩
        · rcases List.mem_cons.mp ht with z | z
          · exact hq (by rw [← z])
          · exact h1 t z
        · rw [e, h2]
          show (J.set q.1 q.2)[i]? = _
          rw [List.getElem?_set_ne hq]
theorem putsW_at {W : List Wr} {J : List Tg} (c : Cons W) {i : Nat} {t : Tg} (hi : i < J.length) (h : (i, t) ∈ W) : (putsW J W)[i]? = some t := by
  rcases putsW_get (W := W) (J := J) hi with ⟨t', h1, h2⟩ | ⟨h1, _⟩
  · have z : t' = t := c _ h1 _ h rfl
    rw [h2, z]
  · exact absurd h (h1 t)
theorem putsW_all {W : List Wr} {J : List Tg} {p : Tg → Prop} (hJ : ∀ t ∈ J, p t) (hW : ∀ q ∈ W, p q.2) : ∀ t ∈ putsW J W, p t := fun t ht => by
  obtain ⟨i, hi, rfl⟩ := List.getElem_of_mem ht
  rw [putsW_len] at hi
  rcases putsW_get (W := W) (J := J) hi with ⟨t', h1, h2⟩ | ⟨_, h2⟩
  · rw [List.getElem?_eq_getElem (by rw [putsW_len]; exact hi)] at h2
    rw [Option.some.inj h2]
    exact hW _ h1
  · rw [List.getElem?_eq_getElem (by rw [putsW_len]; exact hi), List.getElem?_eq_getElem hi] at h2
    rw [Option.some.inj h2]
    exact hJ _ (List.getElem_mem _)
def plc (w p x : Nat) : Nat := w + p * 4 + x
/-- where a track of marks begins -/
def headT : List (Nat × Nat) → Tg → Tg
  | [], t => t
  | m :: _, _ => .pw m.1 m.2
def mw (w : Nat) : List (Nat × Nat) → Tg → List Wr
  | [], _ => []
  | m :: ms, t => mw w ms t ++ [(plc w m.1 (fst3 m.2), headT ms t)]
theorem marked_eq (w : Nat) (t : Tg) : ∀ (ms : List (Nat × Nat)) (J : List Tg), marked w J ms t = (putsW J (mw w ms t), headT ms t)
  | [], J => rfl
  | m :: ms, J => by
    unfold marked
    rw [List.reverse_cons, List.foldl_append]
    have ih := marked_eq w t ms J
    unfold marked at ih
    rw [ih]
    show markStep w (putsW J (mw w ms t), headT ms t) m = (putsW J (mw w ms t ++ [_]), _)
    rw [putsW_app]
    rfl
def lkW (w p : Nat) (a b : Tg) : List Wr := [(plc w p 0, a), (plc w p 1, b)]
theorem looked_eq {w p : Nat} {J : List Tg} {a b : Tg} : looked w J p a b = putsW J (lkW w p a b) := rfl
/-- where one goes on who knows the latest below k -/
def fT (pc : Nat → Nat → Nat) (ts : List Tg) (k one : Nat) : Tg := if k < ts.length then .pw (pc one k) 0 else tgAt ts one
def stW (w : Nat) (pc : Nat → Nat → Nat) (ts : List Tg) (k : Nat) : List Wr := (List.range k).flatMap fun one => lkW w (pc one k) (fT pc ts (k + 1) k) (fT pc ts (k + 1) one)
def ltW (w : Nat) (pc : Nat → Nat → Nat) (ts : List Tg) (i : Nat) : List Wr := (List.range i).flatMap fun i => stW w pc ts (ts.length - 1 - i)
theorem stage_eq {w k : Nat} {pc : Nat → Nat → Nat} {ts : List Tg} {a : List Tg × List Tg} (hk : k < ts.length) (h : ∀ one, one ≤ k → tgAt a.2 one = fT pc ts (k + 1) one) :
    ∀ i, i ≤ k → (List.range i).foldl (stageStep w pc k a.2) (a.1, []) = (putsW a.1 ((List.range i).flatMap fun one => lkW w (pc one k) (fT pc ts (k + 1) k) (fT pc ts (k + 1) one)), (List.range i).map fun one => fT pc ts k one)
  | 0, _ => rfl
  | i + 1, hi => by
    rw [List.range_succ, List.foldl_append, stage_eq hk h i (by omega), List.flatMap_append, List.map_append, putsW_app]
    show stageStep w pc k a.2 _ i = _
    unfold stageStep
    rw [h k (Nat.le_refl k), h i (by omega), looked_eq]
    simp [fT, hk]
theorem latestA_eq {w : Nat} {pc : Nat → Nat → Nat} {J ts : List Tg} : ∀ i, i ≤ ts.length - 1 → (latestA w pc J ts i).1 = putsW J (ltW w pc ts i) ∧ (latestA w pc J ts i).2.length = ts.length - i ∧ ∀ one, one < ts.length - i → tgAt (latestA w pc J ts i).2 one = fT pc ts (ts.length - i) one
  | 0, _ => ⟨rfl, rfl, fun one _ => by
    show tgAt ts one = _
    unfold fT
    rw [if_neg (by omega)]⟩
  | i + 1, hi => by
    obtain ⟨h1, h2, h3⟩ := latestA_eq (w := w) (pc := pc) (J := J) (ts := ts) i (by omega)
    have e : latestA w pc J ts (i + 1) = stage w pc (ts.length - 1 - i) (latestA w pc J ts i) := by
      unfold latestA
      rw [List.range_succ, List.foldl_append]
      rfl
    have hk : ts.length - 1 - i < ts.length := by omega
    have hk1 : ts.length - 1 - i + 1 = ts.length - i := by omega
    have s := stage_eq (w := w) (k := ts.length - 1 - i) (pc := pc) (ts := ts) (a := latestA w pc J ts i) hk (fun one ho => by rw [hk1]; exact h3 one (by omega)) _ (Nat.le_refl _)
    have s2 : latestA w pc J ts (i + 1) = (putsW J (ltW w pc ts (i + 1)), (List.range (ts.length - 1 - i)).map fun one => fT pc ts (ts.length - 1 - i) one) := by
      rw [e]
      unfold stage
      rw [s, h1, ← putsW_app]
      unfold ltW
      rw [List.range_succ, List.flatMap_append]
      simp [stW]
    rw [s2]
    refine ⟨rfl, by simp; omega, fun one ho => ?_⟩
    have hk2 : ts.length - 1 - i = ts.length - (i + 1) := by omega
    show tgAt ((List.range (ts.length - 1 - i)).map fun one => fT pc ts (ts.length - 1 - i) one) one = _
    unfold tgAt
    rw [List.getD_eq_getElem?_getD, List.getElem?_map, List.getElem?_range (by omega), hk2]
    rfl
theorem latest_eq {w : Nat} {pc : Nat → Nat → Nat} {J ts : List Tg} (h : 1 ≤ ts.length) : latest w pc J ts = (putsW J (ltW w pc ts (ts.length - 1)), fT pc ts 1 0) := by
  obtain ⟨h1, h2, h3⟩ := latestA_eq (w := w) (pc := pc) (J := J) (ts := ts) (ts.length - 1) (Nat.le_refl _)
  have e : ts.length - (ts.length - 1) = 1 := by omega
  unfold latest
  rw [h1, h3 0 (by omega), e]
theorem mem_ltW {w : Nat} {pc : Nat → Nat → Nat} {ts : List Tg} {q : Wr} : q ∈ ltW w pc ts (ts.length - 1) ↔ ∃ one k, one < k ∧ k < ts.length ∧ (q = (plc w (pc one k) 0, fT pc ts (k + 1) k) ∨ q = (plc w (pc one k) 1, fT pc ts (k + 1) one)) := by
  unfold ltW stW lkW
  simp only [List.mem_flatMap, List.mem_range, List.mem_cons, List.not_mem_nil, or_false]
  constructor
  · rintro ⟨i, hi, one, ho, hq⟩
    exact ⟨one, ts.length - 1 - i, ho, by omega, hq⟩
  · rintro ⟨one, k, ho, hk, hq⟩
    refine ⟨ts.length - 1 - k, by omega, one, ?_, ?_⟩
    · rw [show ts.length - 1 - (ts.length - 1 - k) = k by omega]
      exact ho
    · rw [show ts.length - 1 - (ts.length - 1 - k) = k by omega]
      exact hq
end Mk
namespace Mk
/-! ### the whole laying as writes -/
theorem fold_puts {α β : Type} (f : List Tg × List β → α → List Tg × List β) (Wf : α → List Wr) (g : α → β) : ∀ (l : List α) (a : List Tg × List β), (∀ q ∈ l, ∀ a, f a q = (putsW a.1 (Wf q), a.2 ++ [g q])) → l.foldl f a = (putsW a.1 (l.flatMap Wf), a.2 ++ l.map g)
  | [], a, _ => by
    rw [List.map_nil, List.append_nil]
    rfl
  | q :: l, a, h => by
    rw [List.foldl_cons, h q List.mem_cons_self, fold_puts f Wf g l _ fun r hr => h r (List.mem_cons_of_mem _ hr)]
    rw [List.flatMap_cons, putsW_app, List.map_cons, List.append_assoc]
    rfl
theorem fold_puts1 {α : Type} (f : List Tg → α → List Tg) (Wf : α → List Wr) : ∀ (l : List α) (J : List Tg), (∀ q ∈ l, ∀ J, f J q = putsW J (Wf q)) → l.foldl f J = putsW J (l.flatMap Wf)
  | [], J, _ => rfl
  | q :: l, J, h => by
    rw [List.foldl_cons, h q List.mem_cons_self, fold_puts1 f Wf l _ fun r hr => h r (List.mem_cons_of_mem _ hr), List.flatMap_cons, putsW_app]
section
variable (w : Nat) (pc : Nat → Nat → Nat → Nat) (pa : Nat → Nat → Nat) (A : List Arr) (S : Rules)
/-- the marks of an arrival -/
def amk (a : Nat) : List (Nat × Nat) := (others A.length a).map (markOf pa a)
def knW1 (q : Arr × Nat) : List Wr := match q.1.2 with
  | none => []
  | some o => mw w (amk pa A q.2) (.ex o)
def kn1 (q : Arr × Nat) : Option Tg := match q.1.2 with
  | none => none
  | some o => some (headT (amk pa A q.2) (.ex o))
def knL : List (Option Tg) := A.zipIdx.map (kn1 pa A)
def trks (s : Nat) (r : List Rule) : List Tg := r.map (trackOf A (knL pa A) s)
def hmW1 (q : List Rule × Nat) : List Wr := ltW w (pc q.2) (trks pa A q.2 q.1) ((trks pa A q.2 q.1).length - 1)
def hm1 (q : List Rule × Nat) : Tg := fT (pc q.2) (trks pa A q.2 q.1) 1 0
def hmL : List Tg := S.zipIdx.map (hm1 pc pa A)
def cTs : List Tg := A.map fun q => tgAt (hmL pc pa A S) q.1
def cen : Tg := fT pa (cTs pc pa A S) 1 0
def enW1 (way : Nat) : List Wr := mw w (entryMarks S.length w pc way) (cen pc pa A S) ++ [(way, headT (entryMarks S.length w pc way) (cen pc pa A S))]
def allW : List Wr := A.zipIdx.flatMap (knW1 w pa A) ++ S.zipIdx.flatMap (hmW1 w pc pa A) ++ ltW w pa (cTs pc pa A S) ((cTs pc pa A S).length - 1) ++ (List.range w).flatMap (enW1 w pc pa A S)
end
variable {w : Nat} {pc : Nat → Nat → Nat → Nat} {pa : Nat → Nat → Nat} {A : List Arr} {S : Rules}
theorem knownA_eq {J : List Tg} : knownA w pa A J A.length = (putsW J (A.zipIdx.flatMap (knW1 w pa A)), knL pa A) := by
  unfold knownA
  rw [List.take_of_length_le (by simp)]
  rw [fold_puts (knownStep w pa A.length) (knW1 w pa A) (kn1 pa A)]
  · rfl
  · rintro ⟨⟨l, o⟩, i⟩ _ a
    cases o with
    | none => rfl
    | some o =>
      show (_, _) = (_, _)
      unfold track
      rw [marked_eq]
      rfl
theorem homeA_eq {J : List Tg} (h : ∀ r ∈ S, 1 ≤ r.length) : homeA w pc A (knL pa A) S J S.length = (putsW J (S.zipIdx.flatMap (hmW1 w pc pa A)), hmL pc pa A S) := by
  unfold homeA
  rw [List.take_of_length_le (by simp)]
  rw [fold_puts (homeStep w pc A (knL pa A)) (hmW1 w pc pa A) (hm1 pc pa A)]
  · rfl
  · rintro ⟨r, i⟩ hr a
    have hm : r ∈ S := (List.mem_zipIdx' hr).2 ▸ List.getElem_mem _
    show (_, _) = (_, _)
    rw [latest_eq (by rw [List.length_map]; exact h r hm)]
    rfl
theorem lay_eq {J : List Tg} (h : ∀ r ∈ S, 1 ≤ r.length) (hA : 1 ≤ A.length) : lay w pc pa A S J = putsW J (allW w pc pa A S) := by
  unfold lay
  rw [knownA_eq]
  show (List.range w).foldl (entryStep S.length w pc (latest w pa (homeA w pc A (knL pa A) S _ S.length).1 (A.map fun q => tgAt (homeA w pc A (knL pa A) S _ S.length).2 q.1)).2) _ = _
  rw [homeA_eq h]
  show (List.range w).foldl (entryStep S.length w pc (latest w pa _ (cTs pc pa A S)).2) (latest w pa _ (cTs pc pa A S)).1 = _
  rw [latest_eq (by unfold cTs; rw [List.length_map]; exact hA)]
  rw [fold_puts1 _ (enW1 w pc pa A S)]
  · unfold allW
    rw [putsW_app, putsW_app, putsW_app]
  · intro way _ J
    unfold entryStep enW1
    rw [marked_eq, putsW_app]
    rfl
end Mk
namespace Mk
/-! ### the places: each is written for one purpose -/
structure Pcs (n w m many : Nat) (pc : Nat → Nat → Nat → Nat) (pa : Nat → Nat → Nat) : Prop where
  pcI : ∀ s s' i j i' j', s < n → s' < n → i < j → j < w → i' < j' → j' < w → pc s i j = pc s' i' j' → s = s' ∧ i = i' ∧ j = j'
  paI : ∀ i j i' j', i < j → j < m → i' < j' → j' < m → pa i j = pa i' j' → i = i' ∧ j = j'
  ne : ∀ s i j a b, s < n → i < j → j < w → a < b → b < m → pc s i j ≠ pa a b
  pcL : ∀ s i j, s < n → i < j → j < w → pc s i j < many
  paL : ∀ a b, a < b → b < m → pa a b < many
def mP (f : Nat → Nat → Nat) (a o : Nat) : Nat := if a < o then f a o else f o a
def mS (a o : Nat) : Nat := if a < o then 2 else 3
theorem markOf_fst (f : Nat → Nat → Nat) (a o : Nat) : (markOf f a o).1 = mP f a o := by
  unfold markOf mP
  split <;> rfl
theorem markOf_slot (f : Nat → Nat → Nat) (a o : Nat) : fst3 (markOf f a o).2 = mS a o := by
  unfold markOf mS
  split <;> rfl
theorem plc_inj {w p p' x x' : Nat} (hx : x < 4) (hx' : x' < 4) (h : plc w p x = plc w p' x') : p = p' ∧ x = x' := by
  unfold plc at h
  omega
theorem mS_lt {a o : Nat} : mS a o < 4 := by
  unfold mS
  split <;> omega
theorem mS_ge {a o : Nat} : 2 ≤ mS a o := by
  unfold mS
  split <;> omega
inductive Grp where
  | kn (a : Nat)
  | hm (s : Nat)
  | ct
  | en (way : Nat)
section
variable (n w m : Nat) (pc : Nat → Nat → Nat → Nat) (pa : Nat → Nat → Nat)
inductive Own (x : Nat) : Grp → Prop
  | kn (a o : Nat) (ha : a < m) (ho : o < m) (ne : o ≠ a) (e : x = plc w (mP pa a o) (mS a o)) : Own x (.kn a)
  | hm (s i j c : Nat) (hs : s < n) (hi : i < j) (hj : j < w) (hc : c < 2) (e : x = plc w (pc s i j) c) : Own x (.hm s)
  | ct (i j c : Nat) (hi : i < j) (hj : j < m) (hc : c < 2) (e : x = plc w (pa i j) c) : Own x .ct
  | en0 (way : Nat) (h : way < w) (e : x = way) : Own x (.en way)
  | en1 (way s o : Nat) (h : way < w) (hs : s < n) (ho : o < w) (ne : o ≠ way) (e : x = plc w (mP (pc s) way o) (mS way o)) : Own x (.en way)
end
variable {n w m many : Nat} {pc : Nat → Nat → Nat → Nat} {pa : Nat → Nat → Nat}
/-- a mark of one kind stands for one pair -/
theorem mP_pa (h : Pcs n w m many pc pa) {a o a' o' : Nat} (ha : a < m) (ho : o < m) (hn : o ≠ a) (ha' : a' < m) (ho' : o' < m) (hn' : o' ≠ a') (e : mP pa a o = mP pa a' o') (e2 : mS a o = mS a' o') : a = a' ∧ o = o' := by
  unfold mP at e
  unfold mS at e2
  by_cases q : a < o <;> by_cases q' : a' < o' <;> simp only [q, q', if_true, if_false] at e e2
  · exact h.paI _ _ _ _ q ho q' ho' e
  · omega
  · omega
  · have := h.paI _ _ _ _ (by omega) ha (by omega) ha' e
    omega
theorem mP_pc (h : Pcs n w m many pc pa) {s s' a o a' o' : Nat} (hs : s < n) (hs' : s' < n) (ha : a < w) (ho : o < w) (hn : o ≠ a) (ha' : a' < w) (ho' : o' < w) (hn' : o' ≠ a') (e : mP (pc s) a o = mP (pc s') a' o') (e2 : mS a o = mS a' o') : s = s' ∧ a = a' ∧ o = o' := by
  unfold mP at e
  unfold mS at e2
  by_cases q : a < o <;> by_cases q' : a' < o' <;> simp only [q, q', if_true, if_false] at e e2
  · exact h.pcI _ _ _ _ _ _ hs hs' q ho q' ho' e
  · omega
  · omega
  · have := h.pcI _ _ _ _ _ _ hs hs' (by omega) ha (by omega) ha' e
    omega
theorem mP_ne (h : Pcs n w m many pc pa) {s a o a' o' : Nat} (hs : s < n) (ha : a < w) (ho : o < w) (hn : o ≠ a) (ha' : a' < m) (ho' : o' < m) (hn' : o' ≠ a') : mP (pc s) a o ≠ mP pa a' o' := by
  unfold mP
  by_cases q : a < o <;> by_cases q' : a' < o' <;> simp only [q, q', if_true, if_false]
  · exact h.ne _ _ _ _ _ hs q ho q' ho'
  · exact h.ne _ _ _ _ _ hs q ho (by omega) ha'
  · exact h.ne _ _ _ _ _ hs (by omega) ha q' ho'
  · exact h.ne _ _ _ _ _ hs (by omega) ha (by omega) ha'
theorem mP_paL (h : Pcs n w m many pc pa) {a o : Nat} (ha : a < m) (ho : o < m) (hn : o ≠ a) : mP pa a o < many := by
  unfold mP
  by_cases q : a < o <;> simp only [q, if_true, if_false]
  · exact h.paL _ _ q ho
  · exact h.paL _ _ (by omega) ha
theorem mP_pcL (h : Pcs n w m many pc pa) {s a o : Nat} (hs : s < n) (ha : a < w) (ho : o < w) (hn : o ≠ a) : mP (pc s) a o < many := by
  unfold mP
  by_cases q : a < o <;> simp only [q, if_true, if_false]
  · exact h.pcL _ _ _ hs q ho
  · exact h.pcL _ _ _ hs (by omega) ha
theorem plc_ge {p x : Nat} : w ≤ plc w p x := by
  unfold plc
  omega
theorem own_one (h : Pcs n w m many pc pa) {x : Nat} {g g' : Grp} (h1 : Own n w m pc pa x g) (h2 : Own n w m pc pa x g') : g = g' := by
  have s1 : ∀ {a o : Nat}, mS a o < 4 := mS_lt
  have s2 : ∀ {a o : Nat}, 2 ≤ mS a o := mS_ge
  have gw : ∀ {p y : Nat}, w ≤ plc w p y := plc_ge
  cases h1 with
  | kn a o ha ho ne e =>
    cases h2 with
    | kn a' o' ha' ho' ne' e' =>
      obtain ⟨z1, z2⟩ := plc_inj s1 s1 (e.symm.trans e')
      rw [(mP_pa h ha ho ne ha' ho' ne' z1 z2).1]
    | hm s i j c hs hi hj hc e' =>
      have := plc_inj s1 (by omega) (e.symm.trans e')
      have := s2 (a := a) (o := o)
      omega
    | ct i j c hi hj hc e' =>
      have := plc_inj s1 (by omega) (e.symm.trans e')
      have := s2 (a := a) (o := o)
      omega
    | en0 way hw e' =>
      have := gw (p := mP pa a o) (y := mS a o)
      omega
    | en1 way s o' hw hs ho' ne' e' => exact absurd (plc_inj s1 s1 (e.symm.trans e')).1.symm (mP_ne h hs hw ho' ne' ha ho ne)
  | hm s i j c hs hi hj hc e =>
    cases h2 with
    | kn a' o' ha' ho' ne' e' =>
      have := plc_inj (by omega) s1 (e.symm.trans e')
      have := s2 (a := a') (o := o')
      omega
    | hm s' i' j' c' hs' hi' hj' hc' e' => rw [(h.pcI _ _ _ _ _ _ hs hs' hi hj hi' hj' (plc_inj (by omega) (by omega) (e.symm.trans e')).1).1]
    | ct i' j' c' hi' hj' hc' e' => exact absurd (plc_inj (by omega) (by omega) (e.symm.trans e')).1 (h.ne _ _ _ _ _ hs hi hj hi' hj')
    | en0 way hw e' =>
      have := gw (p := pc s i j) (y := c)
      omega
    | en1 way s' o' hw hs' ho' ne' e' =>
      have := plc_inj (by omega) s1 (e.symm.trans e')
      have := s2 (a := way) (o := o')
      omega
  | ct i j c hi hj hc e =>
    cases h2 with
    | kn a' o' ha' ho' ne' e' =>
      have := plc_inj (by omega) s1 (e.symm.trans e')
      have := s2 (a := a') (o := o')
      omega
    | hm s' i' j' c' hs' hi' hj' hc' e' => exact absurd (plc_inj (by omega) (by omega) (e'.symm.trans e)).1 (h.ne _ _ _ _ _ hs' hi' hj' hi hj)
    | ct i' j' c' hi' hj' hc' e' => rfl
    | en0 way hw e' =>
      have := gw (p := pa i j) (y := c)
      omega
    | en1 way s' o' hw hs' ho' ne' e' =>
      have := plc_inj (by omega) s1 (e.symm.trans e')
      have := s2 (a := way) (o := o')
      omega
  | en0 way hw e =>
    cases h2 with
    | kn a' o' ha' ho' ne' e' =>
      have := gw (p := mP pa a' o') (y := mS a' o')
      omega
    | hm s' i' j' c' hs' hi' hj' hc' e' =>
      have := gw (p := pc s' i' j') (y := c')
      omega
    | ct i' j' c' hi' hj' hc' e' =>
      have := gw (p := pa i' j') (y := c')
      omega
    | en0 way' hw' e' => rw [← e, ← e']
    | en1 way' s' o' hw' hs' ho' ne' e' =>
      have := gw (p := mP (pc s') way' o') (y := mS way' o')
      omega
  | en1 way s o hw hs ho ne e =>
    cases h2 with
    | kn a' o' ha' ho' ne' e' => exact absurd (plc_inj s1 s1 (e.symm.trans e')).1 (mP_ne h hs hw ho ne ha' ho' ne')
    | hm s' i' j' c' hs' hi' hj' hc' e' =>
      have := plc_inj s1 (by omega) (e.symm.trans e')
      have := s2 (a := way) (o := o)
      omega
    | ct i' j' c' hi' hj' hc' e' =>
      have := plc_inj s1 (by omega) (e.symm.trans e')
      have := s2 (a := way) (o := o)
      omega
    | en0 way' hw' e' =>
      have := gw (p := mP (pc s) way o) (y := mS way o)
      omega
    | en1 way' s' o' hw' hs' ho' ne' e' =>
      obtain ⟨z1, z2⟩ := plc_inj s1 s1 (e.symm.trans e')
      rw [(mP_pc h hs hs' hw ho ne hw' ho' ne' z1 z2).2.1]
end Mk
namespace Mk
theorem mw_mem {w : Nat} {t : Tg} {q : Wr} : ∀ {ms : List (Nat × Nat)}, q ∈ mw w ms t → ∃ m ∈ ms, q.1 = plc w m.1 (fst3 m.2)
  | [], h => by
    unfold mw at h
    exact absurd h List.not_mem_nil
  | m :: ms, h => by
    unfold mw at h
    rcases List.mem_append.mp h with z | z
    · obtain ⟨m', h1, h2⟩ := mw_mem z
      exact ⟨m', List.mem_cons_of_mem _ h1, h2⟩
    · rw [List.mem_singleton.mp z]
      exact ⟨m, List.mem_cons_self, rfl⟩
theorem cons_app {a b : List Wr} (ha : Cons a) (hb : Cons b) (h : ∀ q ∈ a, ∀ r ∈ b, q.1 ≠ r.1) : Cons (a ++ b) := fun q hq r hr e => by
  rcases List.mem_append.mp hq with x | x <;> rcases List.mem_append.mp hr with y | y
  · exact ha q x r y e
  · exact absurd e (h q x r y)
  · exact absurd e.symm (h r y q x)
  · exact hb q x r y e
theorem cons_sing (q : Wr) : Cons [q] := fun a ha b hb _ => by rw [List.mem_singleton.mp ha, List.mem_singleton.mp hb]
theorem mw_cons {w : Nat} {t : Tg} : ∀ {ms : List (Nat × Nat)}, ms.Nodup → (∀ m ∈ ms, ∀ m' ∈ ms, plc w m.1 (fst3 m.2) = plc w m'.1 (fst3 m'.2) → m = m') → Cons (mw w ms t)
  | [], _, _ => fun q hq => by
    unfold mw at hq
    exact absurd hq List.not_mem_nil
  | m :: ms, hn, hi => by
    obtain ⟨h1, h2⟩ := List.nodup_cons.mp hn
    refine cons_app (mw_cons h2 fun a ha b hb => hi a (List.mem_cons_of_mem _ ha) b (List.mem_cons_of_mem _ hb)) (cons_sing _) fun q hq r hr e => ?_
    rw [List.mem_singleton.mp hr] at e
    obtain ⟨m', h3, h4⟩ := mw_mem hq
    have := hi m' (List.mem_cons_of_mem _ h3) m List.mem_cons_self (h4.symm.trans e)
    exact h1 (this ▸ h3)
theorem mw_ok {w e many : Nat} {t : Tg} (ht : t.ok e many 3) : ∀ {ms : List (Nat × Nat)}, (∀ m ∈ ms, m.1 < many ∧ m.2 < 3) → (headT ms t).ok e many 3 ∧ ∀ q ∈ mw w ms t, q.2.ok e many 3
  | [], _ => ⟨ht, fun q hq => by
    unfold mw at hq
    exact absurd hq List.not_mem_nil⟩
  | m :: ms, h => by
    have ih := mw_ok (w := w) ht (ms := ms) fun a ha => h a (List.mem_cons_of_mem _ ha)
    refine ⟨h m List.mem_cons_self, fun q hq => ?_⟩
    unfold mw at hq
    rcases List.mem_append.mp hq with z | z
    · exact ih.2 q z
    · rw [List.mem_singleton.mp z]
      exact ih.1
theorem markOf_way (f : Nat → Nat → Nat) (a o : Nat) : (markOf f a o).2 < 3 := by
  unfold markOf
  split <;> simp
theorem mem_others {m a o : Nat} : o ∈ others m a ↔ o < m ∧ o ≠ a := by
  unfold others
  rw [List.mem_filter, List.mem_range, decide_eq_true_eq]
theorem nd_others {m a : Nat} : (others m a).Nodup := List.Pairwise.filter _ List.nodup_range
structure LayH (e n w m many : Nat) (pc : Nat → Nat → Nat → Nat) (pa : Nat → Nat → Nat) (A : List Arr) (S : Rules) : Prop where
  ok : OkR e n w S
  w1 : 1 ≤ w
  n1 : 1 ≤ n
  e1 : 1 ≤ e
  al : A.length = m
  m1 : 1 ≤ m
  p : Pcs n w m many pc pa
  nd : A.Nodup
  has : ∀ s, s < n → ∀ p ∈ rowAt S s, p.2 ≠ s → (p.2, some p.1) ∈ A
  lt : ∀ q ∈ A, q.1 < n
  out : ∀ q ∈ A, ∀ o, q.2 = some o → o < e
section
variable {e n w m many : Nat} {pc : Nat → Nat → Nat → Nat} {pa : Nat → Nat → Nat} {A : List Arr} {S : Rules}
inductive InG (w : Nat) (pc : Nat → Nat → Nat → Nat) (pa : Nat → Nat → Nat) (A : List Arr) (S : Rules) (q : Wr) : Grp → Prop
  | kn (a l o : Nat) (h : A[a]? = some (l, some o)) (hq : q ∈ mw w (amk pa A a) (.ex o)) : InG w pc pa A S q (.kn a)
  | hm (s : Nat) (r : List Rule) (h : S[s]? = some r) (hq : q ∈ hmW1 w pc pa A (r, s)) : InG w pc pa A S q (.hm s)
  | ct (hq : q ∈ ltW w pa (cTs pc pa A S) ((cTs pc pa A S).length - 1)) : InG w pc pa A S q .ct
  | en (way : Nat) (h : way < w) (hq : q ∈ enW1 w pc pa A S way) : InG w pc pa A S q (.en way)
theorem mem_zip {α : Type} {l : List α} {x : α} {i : Nat} : (x, i) ∈ l.zipIdx ↔ l[i]? = some x := by
  rw [List.mem_zipIdx_iff_getElem?]
theorem allW_in {q : Wr} : q ∈ allW w pc pa A S ↔ ∃ g, InG w pc pa A S q g := by
  unfold allW
  simp only [List.mem_append, List.mem_flatMap, List.mem_range]
  constructor
  · rintro (((⟨⟨⟨l, o⟩, a⟩, h1, h2⟩ | ⟨⟨r, s⟩, h1, h2⟩) | h) | ⟨way, h1, h2⟩)
    · cases o with
      | none => exact absurd h2 List.not_mem_nil
      | some o => exact ⟨_, .kn a l o (mem_zip.mp h1) h2⟩
    · exact ⟨_, .hm s r (mem_zip.mp h1) h2⟩
    · exact ⟨_, .ct h⟩
    · exact ⟨_, .en way h1 h2⟩
  · rintro ⟨g, h⟩
    cases h with
    | kn a l o h hq => exact Or.inl (Or.inl (Or.inl ⟨((l, some o), a), mem_zip.mpr h, hq⟩))
    | hm s r h hq => exact Or.inl (Or.inl (Or.inr ⟨(r, s), mem_zip.mpr h, hq⟩))
    | ct hq => exact Or.inl (Or.inr hq)
    | en way h hq => exact Or.inr ⟨way, h, hq⟩
theorem lt_of_get {α : Type} {l : List α} {i : Nat} {x : α} (h : l[i]? = some x) : i < l.length := (List.getElem?_eq_some_iff.mp h).1
theorem rowAt_ofM {s : Nat} {r : List Rule} (h : S[s]? = some r) : rowAt S s = r := by
  show S.getD s [] = r
  rw [List.getD_eq_getElem?_getD, h]
  rfl
theorem mem_em {way : Nat} {k : Nat × Nat} : k ∈ entryMarks n w pc way ↔ ∃ s, s < n ∧ ∃ o, o < w ∧ o ≠ way ∧ k = markOf (pc s) way o := by
  unfold entryMarks
  simp only [List.mem_flatMap, List.mem_range, List.mem_map, mem_others]
  constructor
  · rintro ⟨s, hs, o, ⟨h1, h2⟩, rfl⟩
    exact ⟨s, hs, o, h1, h2, rfl⟩
  · rintro ⟨s, hs, o, h1, h2, rfl⟩
    exact ⟨s, hs, o, ⟨h1, h2⟩, rfl⟩
theorem mem_amk {a : Nat} {k : Nat × Nat} : k ∈ amk pa A a ↔ ∃ o, o < A.length ∧ o ≠ a ∧ k = markOf pa a o := by
  unfold amk
  simp only [List.mem_map, mem_others]
  constructor
  · rintro ⟨o, ⟨h1, h2⟩, rfl⟩
    exact ⟨o, h1, h2, rfl⟩
  · rintro ⟨o, h1, h2, rfl⟩
    exact ⟨o, ⟨h1, h2⟩, rfl⟩
theorem inG_own (H : LayH e n w m many pc pa A S) {q : Wr} {g : Grp} (h : InG w pc pa A S q g) : Own n w m pc pa q.1 g := by
  cases h with
  | kn a l o h hq =>
    obtain ⟨k, hk, hp⟩ := mw_mem hq
    obtain ⟨o', h1, h2, rfl⟩ := mem_amk.mp hk
    rw [markOf_fst, markOf_slot] at hp
    exact .kn a o' (H.al ▸ lt_of_get h) (H.al ▸ h1) h2 hp
  | hm s r h hq =>
    unfold hmW1 at hq
    have hl : (trks pa A s r).length = w := by
      unfold trks
      rw [List.length_map]
      exact H.ok.row r (List.mem_of_getElem? h)
    obtain ⟨one, k, h1, h2, h3⟩ := mem_ltW.mp hq
    have h2' : k < w := hl ▸ h2
    have hs : s < n := H.ok.len ▸ lt_of_get h
    rcases h3 with rfl | rfl
    · exact .hm s one k 0 hs h1 h2' (by omega) rfl
    · exact .hm s one k 1 hs h1 h2' (by omega) rfl
  | ct hq =>
    obtain ⟨one, k, h1, h2, h3⟩ := mem_ltW.mp hq
    have h2' : k < m := by
      unfold cTs at h2
      rw [List.length_map, H.al] at h2
      exact h2
    rcases h3 with rfl | rfl
    · exact .ct one k 0 h1 h2' (by omega) rfl
    · exact .ct one k 1 h1 h2' (by omega) rfl
  | en way h hq =>
    unfold enW1 at hq
    rcases List.mem_append.mp hq with z | z
    · obtain ⟨k, hk, hp⟩ := mw_mem z
      obtain ⟨s, hs, o, h1, h2, rfl⟩ := mem_em.mp hk
      rw [markOf_fst, markOf_slot] at hp
      exact .en1 way s o h (H.ok.len ▸ hs) h1 h2 hp
    · rw [List.mem_singleton.mp z]
      exact .en0 way h rfl
end
end Mk
namespace Mk
section
variable {e n w m many : Nat} {pc : Nat → Nat → Nat → Nat} {pa : Nat → Nat → Nat} {A : List Arr} {S : Rules}
theorem ltW_cons {f : Nat → Nat → Nat} {ts : List Tg} (hf : ∀ i j i' j', i < j → j < ts.length → i' < j' → j' < ts.length → f i j = f i' j' → i = i' ∧ j = j') : Cons (ltW w f ts (ts.length - 1)) := fun q hq r hr h => by
  obtain ⟨i, j, h1, h2, h3⟩ := mem_ltW.mp hq
  obtain ⟨i', j', h1', h2', h3'⟩ := mem_ltW.mp hr
  rcases h3 with rfl | rfl <;> rcases h3' with rfl | rfl
  · obtain ⟨rfl, rfl⟩ := hf _ _ _ _ h1 h2 h1' h2' (plc_inj (by omega) (by omega) h).1
    rfl
  · have := (plc_inj (by omega) (by omega) h).2
    omega
  · have := (plc_inj (by omega) (by omega) h).2
    omega
  · obtain ⟨rfl, rfl⟩ := hf _ _ _ _ h1 h2 h1' h2' (plc_inj (by omega) (by omega) h).1
    rfl
theorem fst3_lt {k : Nat} (h : k < 3) : fst3 k < 4 := by
  unfold fst3
  split <;> omega
theorem slot_way {f g : Nat → Nat → Nat} {a o a' o' : Nat} (h : mS a o = mS a' o') : (markOf f a o).2 = (markOf g a' o').2 := by
  unfold mS at h
  unfold markOf
  split <;> split <;> simp_all
theorem mark_plc {f g : Nat → Nat → Nat} {a o a' o' : Nat} (h : plc w (markOf f a o).1 (fst3 (markOf f a o).2) = plc w (markOf g a' o').1 (fst3 (markOf g a' o').2)) : mP f a o = mP g a' o' ∧ mS a o = mS a' o' := by
  obtain ⟨h1, h2⟩ := plc_inj (fst3_lt (markOf_way _ _ _)) (fst3_lt (markOf_way _ _ _)) h
  rw [markOf_fst, markOf_fst] at h1
  rw [markOf_slot, markOf_slot] at h2
  exact ⟨h1, h2⟩
theorem amk_cons (H : LayH e n w m many pc pa A S) {a : Nat} (ha : a < m) {t : Tg} : Cons (mw w (amk pa A a) t) := by
  refine mw_cons ?_ fun k hk k' hk' h => ?_
  · unfold amk
    refine nodup_map_inj _ nd_others fun o ho o' ho' h => ?_
    obtain ⟨h1, h2⟩ := mem_others.mp ho
    obtain ⟨h1', h2'⟩ := mem_others.mp ho'
    rw [H.al] at h1 h1'
    have z := mark_plc (w := w) (f := pa) (g := pa) (a := a) (o := o) (a' := a) (o' := o') (by rw [h])
    exact (mP_pa H.p ha h1 h2 ha h1' h2' z.1 z.2).2
  · obtain ⟨o, h1, h2, rfl⟩ := mem_amk.mp hk
    obtain ⟨o', h1', h2', rfl⟩ := mem_amk.mp hk'
    rw [H.al] at h1 h1'
    have z := mark_plc h
    rw [(mP_pa H.p ha h1 h2 ha h1' h2' z.1 z.2).2]
theorem em_cons (H : LayH e n w m many pc pa A S) {way : Nat} (hw : way < w) {t : Tg} : Cons (mw w (entryMarks S.length w pc way) t) := by
  rw [H.ok.len]
  refine mw_cons ?_ fun k hk k' hk' h => ?_
  · unfold entryMarks List.Nodup
    rw [List.pairwise_flatMap]
    refine ⟨fun s hs => ?_, ?_⟩
    · refine nodup_map_inj _ nd_others fun o ho o' ho' h => ?_
      have hs := List.mem_range.mp hs
      obtain ⟨h1, h2⟩ := mem_others.mp ho
      obtain ⟨h1', h2'⟩ := mem_others.mp ho'
      have z := mark_plc (w := w) (f := pc s) (g := pc s) (a := way) (o := o) (a' := way) (o' := o') (by rw [h])
      exact (mP_pc H.p hs hs hw h1 h2 hw h1' h2' z.1 z.2).2.2
    · refine List.Pairwise.imp_of_mem ?_ (List.nodup_range (n := n))
      intro s s' hs hs' hne x hx y hy hxy
      have hs := List.mem_range.mp hs
      have hs' := List.mem_range.mp hs'
      obtain ⟨o, ho, rfl⟩ := List.mem_map.mp hx
      obtain ⟨o', ho', rfl⟩ := List.mem_map.mp hy
      obtain ⟨h1, h2⟩ := mem_others.mp ho
      obtain ⟨h1', h2'⟩ := mem_others.mp ho'
      have z := mark_plc (w := w) (f := pc s) (g := pc s') (a := way) (o := o) (a' := way) (o' := o') (by rw [hxy])
      exact hne (mP_pc H.p hs hs' hw h1 h2 hw h1' h2' z.1 z.2).1
  · obtain ⟨s, hs, o, h1, h2, rfl⟩ := mem_em.mp hk
    obtain ⟨s', hs', o', h1', h2', rfl⟩ := mem_em.mp hk'
    have z := mark_plc h
    obtain ⟨rfl, _, rfl⟩ := mP_pc H.p hs hs' hw h1 h2 hw h1' h2' z.1 z.2
    rfl
theorem cts_len (H : LayH e n w m many pc pa A S) : (cTs pc pa A S).length = m := by
  unfold cTs
  rw [List.length_map, H.al]
theorem trks_len (H : LayH e n w m many pc pa A S) {s : Nat} {r : List Rule} (h : S[s]? = some r) : (trks pa A s r).length = w := by
  unfold trks
  rw [List.length_map]
  exact H.ok.row r (List.mem_of_getElem? h)
theorem inG_cons (H : LayH e n w m many pc pa A S) {q r : Wr} {g : Grp} (h1 : InG w pc pa A S q g) (h2 : InG w pc pa A S r g) (h : q.1 = r.1) : q.2 = r.2 := by
  cases h1 with
  | kn a l o h1 hq =>
    cases h2 with
    | kn _ l' o' h2 hr =>
      rw [h1] at h2
      cases h2
      exact amk_cons H (H.al ▸ lt_of_get h1) q hq r hr h
  | hm s ro h1 hq =>
    cases h2 with
    | hm _ r' h2 hr =>
      rw [h1] at h2
      cases h2
      have hs : s < n := H.ok.len ▸ lt_of_get h1
      refine ltW_cons (fun i j i' j' a b c d x => ?_) q hq r hr h
      rw [show (trks pa A s ro).length = w from trks_len H h1] at b d
      exact (H.p.pcI _ _ _ _ _ _ hs hs a b c d x).2
  | ct hq =>
    cases h2 with
    | ct hr =>
      refine ltW_cons (fun i j i' j' a b c d x => ?_) q hq r hr h
      rw [cts_len H] at b d
      exact H.p.paI _ _ _ _ a b c d x
  | en way hw hq =>
    cases h2 with
    | en _ _ hr =>
      refine cons_app (em_cons H hw) (cons_sing _) (fun a ha b hb z => ?_) q hq r hr h
      rw [List.mem_singleton.mp hb] at z
      obtain ⟨k, _, hp⟩ := mw_mem ha
      have := plc_ge (w := w) (p := k.1) (x := fst3 k.2)
      have z : a.1 = way := z
      omega
theorem allW_cons (H : LayH e n w m many pc pa A S) : Cons (allW w pc pa A S) := fun q hq r hr h => by
  obtain ⟨g, h1⟩ := allW_in.mp hq
  obtain ⟨g', h2⟩ := allW_in.mp hr
  have o1 := inG_own H h1
  have o2 := inG_own H h2
  rw [← h] at o2
  have := own_one H.p o1 o2
  subst this
  exact inG_cons H h1 h2 h
theorem own_lt (H : LayH e n w m many pc pa A S) {x : Nat} {g : Grp} (h : Own n w m pc pa x g) : x < w + many * 4 := by
  have pl : ∀ {p y : Nat}, p < many → y < 4 → plc w p y < w + many * 4 := fun hp hy => by
    unfold plc
    omega
  cases h with
  | kn a o ha ho ne e => rw [e]; exact pl (mP_paL H.p ha ho ne) mS_lt
  | hm s i j c hs hi hj hc e => rw [e]; exact pl (H.p.pcL _ _ _ hs hi hj) (by omega)
  | ct i j c hi hj hc e => rw [e]; exact pl (H.p.paL _ _ hi hj) (by omega)
  | en0 way hw e => omega
  | en1 way s o hw hs ho ne e => rw [e]; exact pl (mP_pcL H.p hs hw ho ne) mS_lt
theorem lay_at (H : LayH e n w m many pc pa A S) {J : List Tg} (hJ : J.length = w + many * 4) {g : Grp} {i : Nat} {t : Tg} (h : InG w pc pa A S (i, t) g) : (lay w pc pa A S J)[i]? = some t := by
  rw [lay_eq (fun r hr => by rw [H.ok.row r hr]; exact H.w1) (by rw [H.al]; exact H.m1)]
  refine putsW_at (allW_cons H) ?_ (allW_in.mpr ⟨g, h⟩)
  rw [hJ]
  exact own_lt H (inG_own H h)
end
end Mk
namespace Mk
theorem idx_get {α : Type} [BEq α] [LawfulBEq α] {x : α} : ∀ {l : List α}, x ∈ l → l[l.idxOf x]? = some x
  | a :: l, h => by
    rcases Classical.em (a = x) with z | z
    · subst z
      simp
    · have hl : x ∈ l := by
        rcases List.mem_cons.mp h with y | y
        · exact absurd y.symm z
        · exact y
      have hi : (a :: l).idxOf x = l.idxOf x + 1 := by
        rw [List.idxOf_cons, show (a == x) = false by simpa using z]
        rfl
      rw [hi]
      simpa using idx_get hl
section
variable {e n w m many : Nat} {pc : Nat → Nat → Nat → Nat} {pa : Nat → Nat → Nat} {A : List Arr} {S : Rules}
theorem zip_getM {α : Type} {l : List α} {i : Nat} {x : α} (h : l[i]? = some x) : l.zipIdx[i]? = some (x, i) := by
  rw [List.getElem?_zipIdx, h]
  simp
theorem knL_at {a l o : Nat} (h : A[a]? = some (l, some o)) : (knL pa A)[a]? = some (some (headT (amk pa A a) (.ex o))) := by
  unfold knL
  rw [List.getElem?_map, zip_getM h]
  rfl
theorem trk_eq (H : LayH e n w m many pc pa A S) {s : Nat} {p : Rule} (hs : s < n) (hp : p ∈ rowAt S s) : trackOf A (knL pa A) s p = if p.2 = s then .ex p.1 else headT (amk pa A (A.idxOf (p.2, some p.1))) (.ex p.1) := by
  unfold trackOf
  split
  · rfl
  · rename_i h
    have := knL_at (pa := pa) (idx_get (H.has s hs p hp h))
    rw [List.getD_eq_getElem?_getD, this]
    rfl
theorem amk_ok (H : LayH e n w m many pc pa A S) {a : Nat} (ha : a < m) : ∀ k ∈ amk pa A a, k.1 < many ∧ k.2 < 3 := fun k hk => by
  obtain ⟨o, h1, h2, rfl⟩ := mem_amk.mp hk
  rw [markOf_fst]
  exact ⟨mP_paL H.p ha (H.al ▸ h1) h2, markOf_way _ _ _⟩
theorem em_ok (H : LayH e n w m many pc pa A S) {way : Nat} (hw : way < w) : ∀ k ∈ entryMarks S.length w pc way, k.1 < many ∧ k.2 < 3 := fun k hk => by
  rw [H.ok.len] at hk
  obtain ⟨s, hs, o, h1, h2, rfl⟩ := mem_em.mp hk
  rw [markOf_fst]
  exact ⟨mP_pcL H.p hs hw h1 h2, markOf_way _ _ _⟩
theorem row_mem (H : LayH e n w m many pc pa A S) {s : Nat} {r : List Rule} (h : S[s]? = some r) {p : Rule} (hp : p ∈ r) : p ∈ rowAt S s := by
  rw [rowAt_ofM h]
  exact hp
theorem arr_lt {x : Arr} (h : x ∈ A) : A.idxOf x < A.length := List.idxOf_lt_length_of_mem h
theorem trks_ok (H : LayH e n w m many pc pa A S) {s : Nat} {r : List Rule} (h : S[s]? = some r) : ∀ t ∈ trks pa A s r, t.ok e many 3 := fun t ht => by
  unfold trks at ht
  obtain ⟨p, hp, rfl⟩ := List.mem_map.mp ht
  have hs : s < n := H.ok.len ▸ lt_of_get h
  have ho : p.1 < e := H.ok.out r (List.mem_of_getElem? h) p hp
  rw [trk_eq H hs (row_mem H h hp)]
  split
  · exact ho
  · rename_i z
    exact (mw_ok (w := w) (show (Tg.ex p.1).ok e many 3 from ho) (amk_ok H (H.al ▸ arr_lt (H.has s hs p (row_mem H h hp) z)))).1
theorem tgAt_ok {ts : List Tg} (h : ∀ t ∈ ts, t.ok e many 3) {i : Nat} (hi : i < ts.length) : (tgAt ts i).ok e many 3 := by
  unfold tgAt
  rw [List.getD_eq_getElem?_getD, List.getElem?_eq_getElem hi]
  exact h _ (List.getElem_mem _)
theorem fT_ok {f : Nat → Nat → Nat} {ts : List Tg} (h : ∀ t ∈ ts, t.ok e many 3) (hf : ∀ i j, i < j → j < ts.length → f i j < many) {k one : Nat} (ho : one < k) (hk : one < ts.length) : (fT f ts k one).ok e many 3 := by
  unfold fT
  split
  · rename_i z
    exact ⟨hf _ _ ho z, by omega⟩
  · exact tgAt_ok h hk
theorem ltW_ok {f : Nat → Nat → Nat} {ts : List Tg} (h : ∀ t ∈ ts, t.ok e many 3) (hf : ∀ i j, i < j → j < ts.length → f i j < many) : ∀ q ∈ ltW w f ts (ts.length - 1), q.2.ok e many 3 := fun q hq => by
  obtain ⟨i, j, h1, h2, h3⟩ := mem_ltW.mp hq
  rcases h3 with rfl | rfl
  · exact fT_ok h hf (by omega) (by omega)
  · exact fT_ok h hf (by omega) (by omega)
theorem hm_at (H : LayH e n w m many pc pa A S) {s : Nat} {r : List Rule} (h : S[s]? = some r) : tgAt (hmL pc pa A S) s = fT (pc s) (trks pa A s r) 1 0 := by
  unfold tgAt hmL
  rw [List.getD_eq_getElem?_getD, List.getElem?_map, zip_getM h]
  rfl
theorem get_row (H : LayH e n w m many pc pa A S) {s : Nat} (hs : s < n) : ∃ r, S[s]? = some r := ⟨_, List.getElem?_eq_getElem (H.ok.len ▸ hs)⟩
theorem hm_ok (H : LayH e n w m many pc pa A S) {s : Nat} (hs : s < n) : (tgAt (hmL pc pa A S) s).ok e many 3 := by
  obtain ⟨r, h⟩ := get_row H hs
  rw [hm_at H h]
  have hl := trks_len H h
  have := H.w1
  exact fT_ok (trks_ok H h) (fun i j a b => H.p.pcL _ _ _ hs a (hl ▸ b)) (by omega) (by omega)
theorem cts_ok (H : LayH e n w m many pc pa A S) : ∀ t ∈ cTs pc pa A S, t.ok e many 3 := fun t ht => by
  unfold cTs at ht
  obtain ⟨q, hq, rfl⟩ := List.mem_map.mp ht
  exact hm_ok H (H.lt q hq)
theorem cen_ok (H : LayH e n w m many pc pa A S) : (cen pc pa A S).ok e many 3 := by
  have hl := cts_len H
  have := H.m1
  exact fT_ok (cts_ok H) (fun i j a b => H.p.paL _ _ a (hl ▸ b)) (by omega) (by omega)
theorem inG_ok (H : LayH e n w m many pc pa A S) {q : Wr} {g : Grp} (h : InG w pc pa A S q g) : q.2.ok e many 3 := by
  cases h with
  | kn a l o h hq => exact (mw_ok (show (Tg.ex o).ok e many 3 from H.out _ (List.mem_of_getElem? h) o rfl) (amk_ok H (H.al ▸ lt_of_get h))).2 q hq
  | hm s r h hq =>
    have hs : s < n := H.ok.len ▸ lt_of_get h
    have hl := trks_len H h
    exact ltW_ok (trks_ok H h) (fun i j a b => H.p.pcL _ _ _ hs a (hl ▸ b)) q hq
  | ct hq =>
    have hl := cts_len H
    exact ltW_ok (cts_ok H) (fun i j a b => H.p.paL _ _ a (hl ▸ b)) q hq
  | en way hw hq =>
    have z := mw_ok (w := w) (cen_ok H) (em_ok H hw)
    rcases List.mem_append.mp hq with y | y
    · exact z.2 q y
    · rw [List.mem_singleton.mp y]
      exact z.1
theorem lay_ok (H : LayH e n w m many pc pa A S) {k : Nat} : ∀ t ∈ lay w pc pa A S (List.replicate k (.ex 0)), t.ok e many 3 := by
  rw [lay_eq (fun r hr => by rw [H.ok.row r hr]; exact H.w1) (by rw [H.al]; exact H.m1)]
  refine putsW_all (fun t ht => ?_) (fun q hq => ?_)
  · rw [(List.mem_replicate.mp ht).2]
    exact H.e1
  · obtain ⟨g, h⟩ := allW_in.mp hq
    exact inG_ok H h
theorem lay_len (H : LayH e n w m many pc pa A S) {J : List Tg} : (lay w pc pa A S J).length = J.length := by
  rw [lay_eq (fun r hr => by rw [H.ok.row r hr]; exact H.w1) (by rw [H.al]; exact H.m1), putsW_len]
end
end Mk
namespace Mk
/-! ### the walk -/
abbrev Wk := List Nat × Tg
def stepW (w : Nat) (J : List Tg) : Wk → Wk
  | (b, .ex x) => (b, .ex x)
  | (b, .pw p k) => (if k = 0 then b else b.set p (if k = 1 then 1 else 0), tgAt J (plc w p (fst3 k + if k = 0 then b.getD p 0 else 0)))
def walkW (w : Nat) (J : List Tg) : Nat → Wk → Wk
  | 0, a => a
  | k + 1, a => walkW w J k (stepW w J a)
section
variable {w : Nat} {J : List Tg}
theorem walk_add : ∀ (i j : Nat) (a : Wk), walkW w J (i + j) a = walkW w J j (walkW w J i a)
  | 0, j, a => by
    rw [Nat.zero_add]
    rfl
  | i + 1, j, a => by
    rw [Nat.succ_add]
    exact walk_add i j _
theorem walk_ex {b : List Nat} {x : Nat} : ∀ k : Nat, walkW w J k (b, .ex x) = (b, .ex x)
  | 0 => rfl
  | k + 1 => walk_ex k
theorem walk_le {i k : Nat} {a : Wk} {b : List Nat} {x : Nat} (h : walkW w J i a = (b, .ex x)) (hk : i ≤ k) : walkW w J k a = (b, .ex x) := by
  have : k = i + (k - i) := by omega
  rw [this, walk_add, h, walk_ex]
def bitM (k : Nat) : Nat := if k = 1 then 1 else 0
def setM (b : List Nat) (q : Nat × Nat) : List Nat := b.set q.1 (bitM q.2)
def setsM (b : List Nat) (ms : List (Nat × Nat)) : List Nat := ms.foldl setM b
theorem setsM_len : ∀ {ms : List (Nat × Nat)} {b : List Nat}, (setsM b ms).length = b.length
  | [], _ => rfl
  | q :: ms, b => by
    show (setsM (setM b q) ms).length = _
    rw [setsM_len]
    exact List.length_set
theorem tgAt_of {i : Nat} {t : Tg} (h : J[i]? = some t) : tgAt J i = t := by
  unfold tgAt
  rw [List.getD_eq_getElem?_getD, h]
  rfl
theorem walk_marks {t : Tg} : ∀ {ms : List (Nat × Nat)} {b : List Nat}, (∀ k ∈ ms, k.2 = 1 ∨ k.2 = 2) → (∀ q ∈ mw w ms t, J[q.1]? = some q.2) → walkW w J ms.length (b, headT ms t) = (setsM b ms, t)
  | [], b, _, _ => rfl
  | k :: ms, b, hk, hw => by
    have h0 : k.2 ≠ 0 := by
      rcases hk k List.mem_cons_self with z | z <;> omega
    have hJ := hw (plc w k.1 (fst3 k.2), headT ms t) (by unfold mw; simp)
    have st : stepW w J (b, headT (k :: ms) t) = (setM b k, headT ms t) := by
      show (if k.2 = 0 then b else b.set k.1 (if k.2 = 1 then 1 else 0), tgAt J (plc w k.1 (fst3 k.2 + if k.2 = 0 then b.getD k.1 0 else 0))) = _
      rw [if_neg h0, if_neg h0, Nat.add_zero, tgAt_of hJ]
      rfl
    show walkW w J ms.length (stepW w J (b, headT (k :: ms) t)) = _
    rw [st, walk_marks (fun a ha => hk a (List.mem_cons_of_mem _ ha)) fun q hq => hw q (by unfold mw; exact List.mem_append.mpr (Or.inl hq))]
    rfl
/-- the bits tell that x is the latest -/
def Lat (f : Nat → Nat → Nat) (m : Nat) (b : List Nat) (x : Nat) : Prop := ∀ o, o < m → o ≠ x → b.getD (mP f x o) 0 = if x < o then 1 else 0
theorem walk_stage {f : Nat → Nat → Nat} {ts : List Tg} {b : List Nat} {x : Nat} (hb : ∀ y ∈ b, y ≤ 1) (hx : x < ts.length) (hl : Lat f ts.length b x) (hw : ∀ q ∈ ltW w f ts (ts.length - 1), J[q.1]? = some q.2) :
    ∀ (d k one : Nat), k + d = ts.length → one < k → (x < k → one = x) → walkW w J d (b, fT f ts k one) = (b, tgAt ts x)
  | 0, k, one, hk, ho, hi => by
    have e : one = x := hi (by omega)
    show (b, fT f ts k one) = _
    unfold fT
    rw [if_neg (by omega), e]
  | d + 1, k, one, hk, ho, hi => by
    have hkl : k < ts.length := by omega
    have ef : fT f ts k one = .pw (f one k) 0 := by
      unfold fT
      rw [if_pos hkl]
    have h0 := hw (plc w (f one k) 0, fT f ts (k + 1) k) (mem_ltW.mpr ⟨one, k, ho, hkl, Or.inl rfl⟩)
    have h1 := hw (plc w (f one k) 1, fT f ts (k + 1) one) (mem_ltW.mpr ⟨one, k, ho, hkl, Or.inr rfl⟩)
    have hbit : b.getD (f one k) 0 = 0 ∨ b.getD (f one k) 0 = 1 := by
      rw [List.getD_eq_getElem?_getD]
      cases q : b[f one k]? with
      | none => exact Or.inl rfl
      | some y =>
        have := hb y (List.mem_of_getElem? q)
        show y = 0 ∨ y = 1
        omega
    have st : ∀ c, b.getD (f one k) 0 = c → stepW w J (b, fT f ts k one) = (b, tgAt J (plc w (f one k) c)) := fun c hc => by
      rw [ef]
      show (if (0 : Nat) = 0 then b else _, tgAt J (plc w (f one k) (fst3 0 + if (0 : Nat) = 0 then b.getD (f one k) 0 else 0))) = _
      rw [if_pos rfl, if_pos rfl, hc]
      simp [fst3]
    show walkW w J d (stepW w J (b, fT f ts k one)) = _
    rcases hbit with z | z
    · rw [st 0 z, tgAt_of h0]
      refine walk_stage hb hx hl hw d (k + 1) k (by omega) (by omega) fun hxk => ?_
      rcases Nat.lt_or_ge x k with y | y
      · exfalso
        have e := hi y
        subst e
        have := hl k hkl (by omega)
        unfold mP at this
        rw [if_pos y, if_pos y, z] at this
        omega
      · omega
    · rw [st 1 z, tgAt_of h1]
      refine walk_stage hb hx hl hw d (k + 1) one (by omega) (by omega) fun hxk => ?_
      rcases Nat.lt_or_ge x k with y | y
      · exact hi y
      · exfalso
        have e : x = k := by omega
        subst e
        have := hl one (by omega) (by omega)
        unfold mP at this
        rw [if_neg (by omega), if_neg (by omega), z] at this
        omega
theorem walk_latest {f : Nat → Nat → Nat} {ts : List Tg} {b : List Nat} {x : Nat} (hb : ∀ y ∈ b, y ≤ 1) (hx : x < ts.length) (hl : Lat f ts.length b x) (hw : ∀ q ∈ ltW w f ts (ts.length - 1), J[q.1]? = some q.2) : walkW w J (ts.length - 1) (b, fT f ts 1 0) = (b, tgAt ts x) :=
  walk_stage hb hx hl hw _ 1 0 (by omega) (by omega) fun h => by omega
end
/-! ### what marks leave -/
theorem setsM_out {p : Nat} : ∀ {ms : List (Nat × Nat)} {b : List Nat}, (∀ k ∈ ms, k.1 ≠ p) → (setsM b ms)[p]? = b[p]?
  | [], _, _ => rfl
  | k :: ms, b, h => by
    show (setsM (setM b k) ms)[p]? = _
    rw [setsM_out fun a ha => h a (List.mem_cons_of_mem _ ha)]
    exact List.getElem?_set_ne (h k List.mem_cons_self)
theorem setsM_in {p v : Nat} : ∀ {ms : List (Nat × Nat)} {b : List Nat}, p < b.length → (∀ k ∈ ms, k.1 = p → k.2 = v) → (∃ k ∈ ms, k.1 = p) → (setsM b ms)[p]? = some (bitM v)
  | [], _, _, _, h => by
    obtain ⟨k, hk, _⟩ := h
    exact absurd hk List.not_mem_nil
  | k :: ms, b, hp, h, hx => by
    show (setsM (setM b k) ms)[p]? = _
    have hl : p < (setM b k).length := by
      show p < (b.set _ _).length
      rw [List.length_set]
      exact hp
    by_cases z : ∃ q ∈ ms, q.1 = p
    · exact setsM_in hl (fun a ha => h a (List.mem_cons_of_mem _ ha)) z
    · rw [setsM_out fun q hq e => z ⟨q, hq, e⟩]
      obtain ⟨q, hq, e⟩ := hx
      rcases List.mem_cons.mp hq with y | y
      · subst y
        subst e
        show (b.set q.1 (bitM q.2))[q.1]? = _
        rw [List.getElem?_set_self hp, h q List.mem_cons_self rfl]
      · exact absurd ⟨q, y, e⟩ z
theorem setsM_le : ∀ {ms : List (Nat × Nat)} {b : List Nat}, (∀ y ∈ b, y ≤ 1) → ∀ y ∈ setsM b ms, y ≤ 1
  | [], _, h => h
  | k :: ms, b, h => setsM_le (ms := ms) fun y hy => by
    rcases List.mem_or_eq_of_mem_set hy with z | z
    · exact h y z
    · rw [z]
      unfold bitM
      split <;> omega
end Mk
namespace Mk
section
variable {e n w m many : Nat} {pc : Nat → Nat → Nat → Nat} {pa : Nat → Nat → Nat} {A : List Arr} {S : Rules}
theorem mP_pa1 (h : Pcs n w m many pc pa) {a o o' : Nat} (ha : a < m) (ho : o < m) (hn : o ≠ a) (ho' : o' < m) (hn' : o' ≠ a) (e : mP pa a o = mP pa a o') : o = o' := by
  unfold mP at e
  by_cases q : a < o <;> by_cases q' : a < o' <;> simp only [q, q', if_true, if_false] at e
  · exact (h.paI _ _ _ _ q ho q' ho' e).2
  · have := h.paI _ _ _ _ q ho (by omega) ha e
    omega
  · have := h.paI _ _ _ _ (by omega) ha q' ho' e
    omega
  · exact (h.paI _ _ _ _ (by omega) ha (by omega) ha e).1
theorem mP_pc1 (h : Pcs n w m many pc pa) {s s' a o o' : Nat} (hs : s < n) (hs' : s' < n) (ha : a < w) (ho : o < w) (hn : o ≠ a) (ho' : o' < w) (hn' : o' ≠ a) (e : mP (pc s) a o = mP (pc s') a o') : s = s' ∧ o = o' := by
  unfold mP at e
  by_cases q : a < o <;> by_cases q' : a < o' <;> simp only [q, q', if_true, if_false] at e
  · have := h.pcI _ _ _ _ _ _ hs hs' q ho q' ho' e
    exact ⟨this.1, this.2.2⟩
  · have := h.pcI _ _ _ _ _ _ hs hs' q ho (by omega) ha e
    omega
  · have := h.pcI _ _ _ _ _ _ hs hs' (by omega) ha q' ho' e
    omega
  · have := h.pcI _ _ _ _ _ _ hs hs' (by omega) ha (by omega) ha e
    exact ⟨this.1, this.2.1⟩
theorem bit_mark (f : Nat → Nat → Nat) (a o : Nat) : bitM (markOf f a o).2 = if a < o then 1 else 0 := by
  unfold markOf bitM
  split <;> simp
theorem markOf_12 (f : Nat → Nat → Nat) (a o : Nat) : (markOf f a o).2 = 1 ∨ (markOf f a o).2 = 2 := by
  unfold markOf
  split <;> simp
/-- some arrival at s is the latest -/
structure Std (m many : Nat) (pa : Nat → Nat → Nat) (A : List Arr) (b : List Nat) (s : Nat) : Prop where
  len : b.length = many
  le : ∀ y ∈ b, y ≤ 1
  arr : ∃ a l, A[a]? = some (s, l) ∧ Lat pa m b a
theorem getD_of {b b' : List Nat} {p : Nat} (h : b[p]? = b'[p]?) : b.getD p 0 = b'.getD p 0 := by
  rw [List.getD_eq_getElem?_getD, List.getD_eq_getElem?_getD, h]
theorem lat_amk (H : LayH e n w m many pc pa A S) {b : List Nat} {a : Nat} (ha : a < m) (hb : b.length = many) : Lat pa m (setsM b (amk pa A a)) a := fun o ho hn => by
  have := setsM_in (p := mP pa a o) (v := (markOf pa a o).2) (ms := amk pa A a) (b := b) (hb ▸ mP_paL H.p ha ho hn) (fun k hk hp => by
    obtain ⟨o', h1, h2, rfl⟩ := mem_amk.mp hk
    rw [markOf_fst] at hp
    rw [mP_pa1 H.p ha (H.al ▸ h1) h2 ho hn hp]) ⟨markOf pa a o, mem_amk.mpr ⟨o, by rw [H.al]; exact ho, hn, rfl⟩, markOf_fst _ _ _⟩
  rw [List.getD_eq_getElem?_getD, this, bit_mark]
  rfl
theorem lat_em (H : LayH e n w m many pc pa A S) {b : List Nat} {x s : Nat} (hx : x < w) (hs : s < n) (hb : b.length = many) : Lat (pc s) w (setsM b (entryMarks S.length w pc x)) x := fun o ho hn => by
  rw [H.ok.len]
  have := setsM_in (p := mP (pc s) x o) (v := (markOf (pc s) x o).2) (ms := entryMarks n w pc x) (b := b) (hb ▸ mP_pcL H.p hs hx ho hn) (fun k hk hp => by
    obtain ⟨s', h0, o', h1, h2, rfl⟩ := mem_em.mp hk
    rw [markOf_fst] at hp
    obtain ⟨rfl, rfl⟩ := mP_pc1 H.p h0 hs hx h1 h2 ho hn hp
    rfl) ⟨markOf (pc s) x o, mem_em.mpr ⟨s, hs, o, ho, hn, rfl⟩, markOf_fst _ _ _⟩
  rw [List.getD_eq_getElem?_getD, this, bit_mark]
  rfl
theorem lat_em_pa (H : LayH e n w m many pc pa A S) {b : List Nat} {x a : Nat} (hx : x < w) (ha : a < m) (h : Lat pa m b a) : Lat pa m (setsM b (entryMarks S.length w pc x)) a := fun o ho hn => by
  rw [← h o ho hn]
  refine getD_of (setsM_out fun k hk e => ?_)
  rw [H.ok.len] at hk
  obtain ⟨s', h0, o', h1, h2, rfl⟩ := mem_em.mp hk
  rw [markOf_fst] at e
  exact mP_ne H.p h0 hx h1 h2 ha ho hn e
theorem others_len {m a : Nat} : (others m a).length ≤ m := by
  have := List.length_filter_le (fun o => decide (o ≠ a)) (List.range m)
  rwa [List.length_range] at this
theorem amk_len (H : LayH e n w m many pc pa A S) {a : Nat} : (amk pa A a).length ≤ m := by
  unfold amk
  rw [List.length_map, ← H.al]
  exact others_len
theorem em_len {x : Nat} : ∀ n : Nat, (entryMarks n w pc x).length ≤ n * w
  | 0 => by
    unfold entryMarks
    simp
  | n + 1 => by
    have := em_len (x := x) n
    unfold entryMarks at this ⊢
    rw [List.range_succ, List.flatMap_append, List.length_append]
    have h : ([n].flatMap fun s => (others w x).map (markOf (pc s) x)).length ≤ w := by
      rw [List.flatMap_cons, List.flatMap_nil, List.append_nil, List.length_map]
      exact others_len
    rw [Nat.succ_mul]
    omega
/-- one entry: the exit and the standing that the rules tell -/
theorem walk_entry (H : LayH e n w m many pc pa A S) {J0 : List Tg} (hJ : J0.length = w + many * 4) {b : List Nat} {s x : Nat} (hs : s < n) (hx : x < w) (I : Std m many pa A b s) :
    ∃ b' y, walkW w (lay w pc pa A S J0) (n * w + m + w + m) (b, tgAt (lay w pc pa A S J0) x) = (b', .ex y) ∧ y = ((rowAt S s).getD x (0, 0)).1 ∧ Std m many pa A b' ((rowAt S s).getD x (0, 0)).2 := by
  obtain ⟨hb, hle, a, l, ha, hla⟩ := I
  have ham : a < m := H.al ▸ lt_of_get ha
  have at_ : ∀ {q : Wr} {g : Grp}, InG w pc pa A S q g → (lay w pc pa A S J0)[q.1]? = some q.2 := fun h => lay_at H hJ h
  obtain ⟨r, hr⟩ := get_row H hs
  have hrl : r.length = w := H.ok.row r (List.mem_of_getElem? hr)
  obtain ⟨p, hp⟩ : ∃ p, r[x]? = some p := ⟨_, List.getElem?_eq_getElem (hrl ▸ hx)⟩
  have ep : (rowAt S s).getD x (0, 0) = p := by
    rw [rowAt_ofM hr, List.getD_eq_getElem?_getD, hp]
    rfl
  rw [ep]
  have hpr : p ∈ rowAt S s := row_mem H hr (List.mem_of_getElem? hp)
  -- the entry's marks
  have e1 : tgAt (lay w pc pa A S J0) x = headT (entryMarks S.length w pc x) (cen pc pa A S) := tgAt_of (at_ (q := (x, _)) (.en x hx (List.mem_append.mpr (Or.inr (List.mem_singleton.mpr rfl)))))
  have w1 := walk_marks (w := w) (J := lay w pc pa A S J0) (t := cen pc pa A S) (ms := entryMarks S.length w pc x) (b := b) (fun k hk => by
    obtain ⟨s', _, o', _, _, rfl⟩ := mem_em.mp hk
    exact markOf_12 _ _ _) (fun q hq => at_ (.en x hx (List.mem_append.mpr (Or.inl hq))))
  have hb1 : (setsM b (entryMarks S.length w pc x)).length = many := by rw [setsM_len, hb]
  have hle1 := setsM_le (ms := entryMarks S.length w pc x) hle
  have hpa := lat_em_pa H hx ham hla
  have hpc := lat_em H (s := s) hx hs hb
  generalize setsM b (entryMarks S.length w pc x) = b1 at w1 hb1 hle1 hpa hpc
  -- the center
  have hcl := cts_len H
  have w2 := walk_latest (w := w) (J := lay w pc pa A S J0) (f := pa) (ts := cTs pc pa A S) (b := b1) (x := a) hle1 (by omega) (by rw [hcl]; exact hpa) (fun q hq => at_ (.ct hq))
  have e2 : tgAt (cTs pc pa A S) a = fT (pc s) (trks pa A s r) 1 0 := by
    rw [← hm_at H hr]
    refine tgAt_of ?_
    unfold cTs
    rw [List.getElem?_map, ha]
    rfl
  -- the home
  have htl := trks_len H hr
  have w3 := walk_latest (w := w) (J := lay w pc pa A S J0) (f := pc s) (ts := trks pa A s r) (b := b1) (x := x) hle1 (by omega) (by rw [htl]; exact hpc) (fun q hq => at_ (.hm s r hr hq))
  have e3 : tgAt (trks pa A s r) x = trackOf A (knL pa A) s p := by
    refine tgAt_of ?_
    unfold trks
    rw [List.getElem?_map, hp]
    rfl
  have w123 : walkW w (lay w pc pa A S J0) ((entryMarks S.length w pc x).length + ((m - 1) + (w - 1))) (b, tgAt (lay w pc pa A S J0) x) = (b1, trackOf A (knL pa A) s p) := by
    rw [walk_add, e1, w1, walk_add]
    have q : walkW w (lay w pc pa A S J0) (m - 1) (b1, cen pc pa A S) = (b1, fT (pc s) (trks pa A s r) 1 0) := by
      rw [← e2, ← w2, hcl]
      rfl
    rw [q, ← e3, ← w3, htl]
  have hel := em_len (w := w) (pc := pc) (x := x) S.length
  rw [H.ok.len] at hel w123
  rw [trk_eq H hs hpr] at w123
  by_cases hps : p.2 = s
  · rw [if_pos hps] at w123
    refine ⟨b1, p.1, walk_le w123 (by omega), rfl, hb1, hle1, a, l, ?_, hpa⟩
    rw [hps]
    exact ha
  · rw [if_neg hps] at w123
    have hin := H.has s hs p hpr hps
    have hg := idx_get hin
    have ha' : A.idxOf (p.2, some p.1) < m := H.al ▸ lt_of_get hg
    have w4 := walk_marks (w := w) (J := lay w pc pa A S J0) (t := .ex p.1) (ms := amk pa A (A.idxOf (p.2, some p.1))) (b := b1) (fun k hk => by
      obtain ⟨o', _, _, rfl⟩ := mem_amk.mp hk
      exact markOf_12 _ _ _) (fun q hq => at_ (.kn _ _ _ hg hq))
    have hal := amk_len H (a := A.idxOf (p.2, some p.1))
    refine ⟨setsM b1 (amk pa A (A.idxOf (p.2, some p.1))), p.1, walk_le (i := ((entryMarks n w pc x).length + ((m - 1) + (w - 1))) + (amk pa A (A.idxOf (p.2, some p.1))).length) ?_ (by omega), rfl, by rw [setsM_len, hb1], setsM_le hle1, _, _, hg, lat_amk H ha' hb1⟩
    rw [walk_add, w123, w4]
end
end Mk
namespace Mk
theorem pIdx_get {m i j : Nat} (h : i < j) (hj : j < m) : (pairsL m)[pIdx m i j]? = some (i, j) := idx_get (mem_pairsL.mpr ⟨h, hj⟩)
theorem pIdx_lt {m i j : Nat} (h : i < j) (hj : j < m) : pIdx m i j < m * (m - 1) / 2 := by
  rw [← pairsL_len]
  exact lt_of_get (pIdx_get h hj)
theorem pIdx_inj {m i j i' j' : Nat} (h : i < j) (hj : j < m) (h' : i' < j') (hj' : j' < m) (e : pIdx m i j = pIdx m i' j') : i = i' ∧ j = j' := by
  have a := pIdx_get h hj
  have b := pIdx_get h' hj'
  rw [e] at a
  rw [a] at b
  cases b
  exact ⟨rfl, rfl⟩
theorem even_tri : ∀ w : Nat, 2 ∣ w * (w - 1)
  | 0 => ⟨0, rfl⟩
  | w + 1 => by
    obtain ⟨k, hk⟩ := even_tri w
    refine ⟨k + w, ?_⟩
    cases w with
    | zero => simp at hk ⊢; omega
    | succ w =>
      simp only [Nat.add_sub_cancel] at hk ⊢
      have a : (w + 1 + 1) * (w + 1) = (w + 1) * w + (w + 1) * 2 := by
        rw [Nat.mul_comm (w + 1 + 1), ← Nat.mul_add]
      rw [a]
      omega
theorem manyF_eq (n w : Nat) : manyF n w = w * (w - 1) / 2 * n := by
  unfold manyF
  rw [Nat.mul_assoc, Nat.mul_div_assoc n (even_tri w), Nat.mul_comm]
theorem dig {n a b s s' : Nat} (hs : s < n) (hs' : s' < n) (h : a * n + s = b * n + s') : a = b ∧ s = s' := by
  have h1 : (a * n + s) / n = a := by
    rw [Nat.add_comm, Nat.add_mul_div_right _ _ (by omega), Nat.div_eq_of_lt hs, Nat.zero_add]
  have h2 : (b * n + s') / n = b := by
    rw [Nat.add_comm, Nat.add_mul_div_right _ _ (by omega), Nat.div_eq_of_lt hs', Nat.zero_add]
  have e : a = b := by rw [← h1, ← h2, h]
  subst e
  exact ⟨rfl, by omega⟩
theorem pw_lt {n w s i j : Nat} (hs : s < n) (h : i < j) (hj : j < w) : pwF n w s i j < manyF n w := by
  rw [manyF_eq]
  have := pIdx_lt h hj
  have q : (pIdx w i j + 1) * n ≤ w * (w - 1) / 2 * n := Nat.mul_le_mul_right _ this
  rw [Nat.succ_mul] at q
  unfold pwF
  omega
theorem pcs (n w m : Nat) : Pcs n w m (piecesF n w m) (pwF n w) (paF n w m) where
  pcI s s' i j i' j' hs hs' h hj h' hj' e := by
    obtain ⟨a, b⟩ := dig hs hs' e
    exact ⟨b, pIdx_inj h hj h' hj' a⟩
  paI i j i' j' h hj h' hj' e := pIdx_inj h hj h' hj' (by unfold paF at e; omega)
  ne s i j a b hs h hj h' hj' e := by
    have := pw_lt hs h hj
    unfold paF at e
    omega
  pcL s i j hs h hj := by
    have := pw_lt hs h hj
    unfold piecesF
    omega
  paL a b h hb := by
    have := pIdx_lt h hb
    unfold piecesF paF
    omega
theorem mem_chg {S : Rules} {q : Nat × Nat} : q ∈ chg S ↔ ∃ s, s < S.length ∧ ∃ p ∈ rowAt S s, p.2 ≠ s ∧ q = (p.2, p.1) := by
  unfold chg chgRow
  simp only [List.mem_flatMap, List.mem_range, List.mem_map, List.mem_filter, decide_eq_true_eq]
  constructor
  · rintro ⟨s, hs, p, ⟨h1, h2⟩, rfl⟩
    exact ⟨s, hs, p, h1, h2, rfl⟩
  · rintro ⟨s, hs, p, h1, h2, rfl⟩
    exact ⟨s, hs, p, ⟨h1, h2⟩, rfl⟩
theorem mem_arrF {S : Rules} {q : Arr} : q ∈ arrF S ↔ (∃ l o, (l, o) ∈ chg S ∧ q = (l, some o)) ∨ (q = (0, none) ∧ 0 ∉ (arrU S).map (·.1)) := by
  unfold arrF
  rw [List.mem_append, List.mem_map]
  constructor
  · rintro (⟨⟨l, o⟩, h, rfl⟩ | h)
    · exact Or.inl ⟨l, o, mem_uniq.mp h, rfl⟩
    · split at h
      · exact absurd h List.not_mem_nil
      · rename_i z
        exact Or.inr ⟨List.mem_singleton.mp h, z⟩
  · rintro (⟨l, o, h, rfl⟩ | ⟨rfl, z⟩)
    · exact Or.inl ⟨(l, o), mem_uniq.mpr h, rfl⟩
    · right
      rw [if_neg z]
      exact List.mem_singleton.mpr rfl
theorem arrF_zero (S : Rules) : 0 ∈ (arrF S).map (·.1) := by
  by_cases z : 0 ∈ (arrU S).map (·.1)
  · obtain ⟨q, hq, e⟩ := List.mem_map.mp z
    exact List.mem_map.mpr ⟨(q.1, some q.2), mem_arrF.mpr (Or.inl ⟨q.1, q.2, mem_uniq.mp hq, rfl⟩), e⟩
  · exact List.mem_map.mpr ⟨(0, none), mem_arrF.mpr (Or.inr ⟨rfl, z⟩), rfl⟩
theorem arrF_nd (S : Rules) : (arrF S).Nodup := by
  unfold arrF
  rw [List.nodup_append]
  refine ⟨nodup_map_inj _ (nd_uniq _) fun x _ y _ h => ?_, ?_, ?_⟩
  · obtain ⟨a, b⟩ := x
    obtain ⟨c, d⟩ := y
    simp only [Prod.mk.injEq, Option.some.injEq] at h
    rw [h.1, h.2]
  · split
    · exact List.nodup_nil
    · simp
  · intro a ha b hb e
    obtain ⟨q, _, rfl⟩ := List.mem_map.mp ha
    split at hb
    · exact absurd hb List.not_mem_nil
    · rw [List.mem_singleton.mp hb] at e
      have e2 : some q.2 = none := congrArg Prod.snd e
      cases e2
theorem layH {e n w : Nat} {S : Rules} (h : OkR e n w S) (hw : 1 ≤ w) (hn : 1 ≤ n) (he : 1 ≤ e) : LayH e n w (arrF S).length (piecesF n w (arrF S).length) (pwF n w) (paF n w (arrF S).length) (arrF S) S where
  ok := h
  w1 := hw
  n1 := hn
  e1 := he
  al := rfl
  m1 := by
    have := arrF_zero S
    cases q : arrF S with
    | nil => rw [q] at this; exact absurd this List.not_mem_nil
    | cons a l => simp
  p := pcs _ _ _
  nd := arrF_nd S
  has s hs p hp hne := mem_arrF.mpr (Or.inl ⟨p.2, p.1, mem_chg.mpr ⟨s, h.len ▸ hs, p, hp, hne, rfl⟩, rfl⟩)
  lt q hq := by
    rcases mem_arrF.mp hq with ⟨l, o, hc, rfl⟩ | ⟨z, _⟩
    · obtain ⟨s, hs, p, hp, _, e⟩ := mem_chg.mp hc
      cases e
      have hm : rowAt S s ∈ S := by
        rw [rowAt_ofM (List.getElem?_eq_getElem hs)]
        exact List.getElem_mem _
      exact h.nxt _ hm p hp
    · rw [z]
      exact hn
  out q hq o ho := by
    rcases mem_arrF.mp hq with ⟨l, o', hc, rfl⟩ | ⟨z, _⟩
    · obtain ⟨s, hs, p, hp, _, e⟩ := mem_chg.mp hc
      cases e
      have hm : rowAt S s ∈ S := by
        rw [rowAt_ofM (List.getElem?_eq_getElem hs)]
        exact List.getElem_mem _
      have := h.out _ hm p hp
      cases ho
      exact this
    · rw [z] at ho
      cases ho
end Mk
namespace Mk
def firstF (S : Rules) : Nat := ((arrF S).map (·.1)).idxOf 0
def begsF (S : Rules) (w : Nat) : List Nat := begF (piecesF S.length w (arrF S).length) (arrF S).length (fun q => manyF S.length w + (pairsL (arrF S).length).idxOf q) (firstF S)
theorem std_beg {e n w : Nat} {S : Rules} (h : OkR e n w S) (hw : 1 ≤ w) (hn : 1 ≤ n) (he : 1 ≤ e) : Std (arrF S).length (piecesF n w (arrF S).length) (paF n w (arrF S).length) (arrF S) (begsF S w) 0 := by
  have H := layH h hw hn he
  have hf : ((arrF S).map (·.1))[firstF S]? = some 0 := idx_get (arrF_zero S)
  rw [List.getElem?_map] at hf
  obtain ⟨⟨l, o⟩, hq, e0⟩ := Option.map_eq_some_iff.mp hf
  have e0 : l = 0 := e0
  subst e0
  have hlt : firstF S < (arrF S).length := lt_of_get hq
  refine ⟨by unfold begsF; rw [begF_len, h.len], begF_le, firstF S, o, hq, fun o' ho hne => ?_⟩
  have key : ∀ a b, a < b → b < (arrF S).length → (begsF S w).getD (paF n w (arrF S).length a b) 0 = if a = firstF S then 1 else 0 := fun a b hab hb => by
    have z := fold_beg_at (fa := fun q => manyF S.length w + (pairsL (arrF S).length).idxOf q) (first := firstF S) (pairsL (arrF S).length) (List.replicate (piecesF S.length w (arrF S).length) 0) (fun p hp q hq e => by
      obtain ⟨p1, p2⟩ := mem_pairsL.mp hp
      obtain ⟨q1, q2⟩ := mem_pairsL.mp hq
      have := H.p.paI p.1 p.2 q.1 q.2 p1 p2 q1 q2 (by rw [← h.len]; exact e)
      exact Prod.ext this.1 this.2) (a, b) (mem_pairsL.mpr ⟨hab, hb⟩) (by
        rw [List.length_replicate, h.len]
        exact H.p.paL a b hab hb)
    rw [List.getD_eq_getElem?_getD]
    have z2 : (begsF S w)[paF n w (arrF S).length a b]? = some (if a = firstF S then 1 else 0) := by
      rw [← h.len]
      exact z
    rw [z2]
    rfl
  unfold mP
  by_cases q : firstF S < o'
  · rw [if_pos q, if_pos q, key _ _ q ho, if_pos rfl]
  · rw [if_neg q, if_neg q, key _ _ (by omega) hlt, if_neg hne]
/-- what the rules answer -/
def dueF (S : Rules) : Nat → List Nat → List Nat
  | _, [] => []
  | s, x :: xs => ((rowAt S s).getD x (0, 0)).1 :: dueF S ((rowAt S s).getD x (0, 0)).2 xs
/-- what the web answers, by so many steps at most -/
inductive AnsW (w : Nat) (J : List Tg) (most : Nat) : List Nat → List Nat → List Nat → Prop
  | nil (b : List Nat) : AnsW w J most b [] []
  | cons (b b' : List Nat) (x y : Nat) (xs ys : List Nat) (h : walkW w J most (b, tgAt J x) = (b', .ex y)) (t : AnsW w J most b' xs ys) : AnsW w J most b (x :: xs) (y :: ys)
theorem layF_lay {e n w : Nat} {S : Rules} (h : OkR e n w S) : layF S w = lay w (pwF n w) (paF n w (arrF S).length) (arrF S) S (List.replicate (w + piecesF n w (arrF S).length * 4) (.ex 0)) := by
  unfold layF
  rw [h.len]
theorem rule_next {e n w : Nat} {S : Rules} (h : OkR e n w S) {s x : Nat} (hs : s < n) (hx : x < w) : ((rowAt S s).getD x (0, 0)).2 < n := by
  have hg : S[s]? = some (S[s]'(by rw [h.len]; exact hs)) := List.getElem?_eq_getElem (by rw [h.len]; exact hs)
  have hm : S[s]'(by rw [h.len]; exact hs) ∈ S := List.getElem_mem _
  rw [rowAt_ofM hg]
  have hl : x < (S[s]'(by rw [h.len]; exact hs)).length := by
    rw [h.row _ hm]
    exact hx
  rw [List.getD_eq_getElem?_getD, List.getElem?_eq_getElem hl]
  exact h.nxt _ hm _ (List.getElem_mem _)
theorem ans_row {e n w most : Nat} {S : Rules} (h : OkR e n w S) (hw : 1 ≤ w) (hn : 1 ≤ n) (he : 1 ≤ e) (hm : n * w + (arrF S).length + w + (arrF S).length ≤ most) :
    ∀ (xs : List Nat) (b : List Nat) (s : Nat), s < n → (∀ x ∈ xs, x < w) → Std (arrF S).length (piecesF n w (arrF S).length) (paF n w (arrF S).length) (arrF S) b s → AnsW w (layF S w) most b xs (dueF S s xs)
  | [], b, s, _, _, _ => .nil b
  | x :: xs, b, s, hs, hx, I => by
    have hxw := hx x List.mem_cons_self
    obtain ⟨b', y, h1, h2, h3⟩ := walk_entry (layH h hw hn he) (J0 := List.replicate (w + piecesF n w (arrF S).length * 4) (.ex 0)) (by rw [List.length_replicate]) hs hxw I
    rw [← layF_lay h] at h1
    subst h2
    exact .cons b b' x _ xs _ (walk_le h1 hm) (ans_row h hw hn he hm xs b' _ (rule_next h hs hxw) (fun a ha => hx a (List.mem_cons_of_mem _ ha)) h3)
theorem ans_zero {e n w most : Nat} {S : Rules} (h : OkR e n w S) (hw : 1 ≤ w) (hn : 1 ≤ n) (he : 1 ≤ e) (hm : n * w + (arrF S).length + w + (arrF S).length ≤ most) {xs : List Nat} (hx : ∀ x ∈ xs, x < w) : AnsW w (layF S w) most (begsF S w) xs (dueF S 0 xs) :=
  ans_row h hw hn he hm xs _ 0 hn hx (std_beg h hw hn he)
theorem layF_len {e n w : Nat} {S : Rules} (h : OkR e n w S) (hw : 1 ≤ w) (hn : 1 ≤ n) (he : 1 ≤ e) : (layF S w).length = w + piecesF n w (arrF S).length * 4 := by
  rw [layF_lay h, lay_len (layH h hw hn he), List.length_replicate]
theorem layF_ok {e n w : Nat} {S : Rules} (h : OkR e n w S) (hw : 1 ≤ w) (hn : 1 ≤ n) (he : 1 ≤ e) : ∀ t ∈ layF S w, t.ok e (piecesF n w (arrF S).length) 3 := by
  rw [layF_lay h]
  exact lay_ok (layH h hw hn he)
theorem begsF_len {S : Rules} {w : Nat} : (begsF S w).length = piecesF S.length w (arrF S).length := begF_len
end Mk
namespace Mk
theorem due_least {e n w : Nat} {R : Rules} (h : OkR e n w R) (hn : 0 < n) : ∀ (xs : List Nat) (s i : Nat), Sim n R s i → (∀ x ∈ xs, x < w) → dueF (leastF R) i xs = dueF R s xs
  | [], _, _, _, _ => rfl
  | x :: xs, s, i, q, hx => by
    obtain ⟨h1, h2⟩ := sim_step h hn q (hx x List.mem_cons_self)
    show (ruleAt (leastF R) i x).1 :: dueF (leastF R) (ruleAt (leastF R) i x).2 xs = (ruleAt R s x).1 :: dueF R (ruleAt R s x).2 xs
    rw [h1, due_least h hn xs _ _ h2 fun a ha => hx a (List.mem_cons_of_mem _ ha)]
theorem due_zero {e n w : Nat} {R : Rules} (h : OkR e n w R) (hn : 0 < n) {xs : List Nat} (hx : ∀ x ∈ xs, x < w) : dueF (leastF R) 0 xs = dueF R 0 xs := due_least h hn xs 0 0 (sim_zero h hn) hx
theorem chg_to_len {S : Rules} {w : Nat} (h : ∀ r ∈ S, r.length = w) : ∀ k, k ≤ S.length → ((List.range k).flatMap fun s => chgRow s (rowAt S s)).length ≤ k * w
  | 0, _ => by simp
  | k + 1, hk => by
    have ih := chg_to_len h k (by omega)
    rw [List.range_succ, List.flatMap_append, List.length_append, List.flatMap_cons, List.flatMap_nil, List.append_nil, Nat.succ_mul]
    have : (chgRow k (rowAt S k)).length ≤ w := by
      unfold chgRow
      rw [List.length_map]
      have hg : S[k]? = some (S[k]'(by omega)) := List.getElem?_eq_getElem (by omega)
      have hl := h _ (List.getElem_mem (l := S) (n := k) (by omega))
      rw [rowAt_ofM hg]
      exact hl ▸ List.length_filter_le _ _
    omega
theorem arrF_len {e n w : Nat} {S : Rules} (h : OkR e n w S) : (arrF S).length ≤ n * w + 1 := by
  have h1 : (chg S).length ≤ S.length * w := chg_to_len h.row S.length (Nat.le_refl _)
  have h2 : (arrU S).length ≤ (chg S).length := uniq_len _
  rw [h.len] at h1
  unfold arrF
  rw [List.length_append, List.length_map]
  split
  · simp
    omega
  · simp
    omega
/-- the tables of the law are small: few pieces -/
theorem few {e n w : Nat} {S : Rules} (h : OkR e n w S) (hn : n ≤ 9) (hw : w ≤ 6) (hnw : n * w ≤ 15) : piecesF n w (arrF S).length ≤ 1200 ∧ (arrF S).length ≤ 16 := by
  have hm := arrF_len h
  have hm16 : (arrF S).length ≤ 16 := by omega
  refine ⟨?_, hm16⟩
  have h1 : (arrF S).length * ((arrF S).length - 1) ≤ 16 * 15 := Nat.mul_le_mul hm16 (by omega)
  have h2 : n * w * (w - 1) ≤ 15 * 5 := Nat.mul_le_mul hnw (by omega)
  unfold piecesF manyF
  omega
end Mk
namespace Mk
/-! ### the bound's count -/
section
variable {α : Type} [DecidableEq α]
theorem fold_skip {u : List α} : ∀ (c acc : List α), (∀ y ∈ u, y ∈ acc) → (c.filter fun x => decide (x ∉ u)).foldl addU acc = c.foldl addU acc
  | [], _, _ => rfl
  | x :: c, acc, h => by
    rw [List.filter_cons]
    split
    · rw [List.foldl_cons, List.foldl_cons]
      exact fold_skip c _ fun y hy => mem_addU.mpr (Or.inl (h y hy))
    · rename_i z
      have hx : x ∈ u := by simpa using z
      rw [List.foldl_cons, addU_in (h x hx)]
      exact fold_skip c _ h
theorem uniq_skip (a c : List α) : uniq (uniq a ++ c.filter fun x => decide (x ∉ uniq a)) = uniq (a ++ c) := by
  rw [uniq_append, uniq_nodup (nd_uniq a), fold_skip c _ fun y hy => hy, ← uniq_append]
def firstsL (l : List α) : List α := (l.zipIdx.filter fun q => decide (q.1 ∉ l.take q.2)).map (·.1)
theorem firstsL_to (l : List α) : ∀ i, i ≤ l.length → ((l.take i).zipIdx.filter fun q => decide (q.1 ∉ l.take q.2)).map (·.1) = uniq (l.take i)
  | 0, _ => rfl
  | i + 1, h => by
    have hg : l[i]? = some (l[i]'(by omega)) := List.getElem?_eq_getElem (by omega)
    have ih := firstsL_to l i (by omega)
    rw [uniq_take_succ hg, ← ih, List.take_succ, hg]
    rw [List.zipIdx_append, List.filter_append, List.map_append]
    have hl : (l.take i).length = i := by rw [List.length_take]; omega
    rw [hl]
    simp only [Option.toList_some, List.zipIdx_cons, List.zipIdx_nil, Nat.zero_add, List.filter_cons, List.filter_nil]
    rw [ih]
    by_cases z : l[i]'(by omega) ∈ l.take i
    · rw [addU_in (mem_uniq.mpr z)]
      simp [z]
    · rw [addU_out (fun y => z (mem_uniq.mp y))]
      simp [z]
theorem firstsL_eq (l : List α) : firstsL l = uniq l := by
  have := firstsL_to l l.length (Nat.le_refl _)
  rwa [List.take_length] at this
end
end Mk
namespace Mk
/-- what _law_bound has found after so many standings -/
def bndTo (S : Rules) (k : Nat) : List (Nat × Nat) := uniq ((List.range k).flatMap fun s => chgRow s (rowAt S s))
theorem bndTo_zero {S : Rules} : bndTo S 0 = [] := rfl
theorem bndTo_succ {S : Rules} (k : Nat) : bndTo S (k + 1) = firstsL (bndTo S k ++ (chgRow k (rowAt S k)).filter fun x => decide (x ∉ bndTo S k)) := by
  rw [firstsL_eq]
  unfold bndTo
  generalize ha : ((List.range k).flatMap fun s => chgRow s (rowAt S s)) = a
  generalize hc : chgRow k (rowAt S k) = c
  have z := uniq_skip a c
  have e : ∀ d1 d2 : DecidablePred (fun x => x ∉ uniq a), (c.filter fun x => @decide _ (d1 x)) = c.filter fun x => @decide _ (d2 x) := fun d1 d2 => List.filter_congr fun x _ => decide_eq_decide.mpr Iff.rfl
  refine Eq.trans ?_ (z.symm.trans (congrArg (fun y => uniq (uniq a ++ y)) (e _ _)))
  rw [List.range_succ, List.flatMap_append, List.flatMap_cons, List.flatMap_nil, List.append_nil, ha, hc]
theorem bndTo_all {S : Rules} : bndTo S S.length = arrU S := rfl
theorem bnd_len {S : Rules} : (arrF S).length = (arrU S).length + if ((arrU S).filter fun q => decide (q.1 = 0)) = [] then 1 else 0 := by
  unfold arrF
  rw [List.length_append, List.length_map]
  by_cases z : 0 ∈ (arrU S).map (·.1)
  · rw [if_pos z]
    obtain ⟨q, hq, e⟩ := List.mem_map.mp z
    rw [if_neg]
    · rfl
    · intro h
      have : q ∈ (arrU S).filter fun q => decide (q.1 = 0) := List.mem_filter.mpr ⟨hq, by simpa using e⟩
      rw [h] at this
      exact absurd this List.not_mem_nil
  · rw [if_neg z, if_pos]
    · rfl
    · refine List.filter_eq_nil_iff.mpr fun q hq h => z (List.mem_map.mpr ⟨q, hq, ?_⟩)
      simpa using h
end Mk
namespace Mk
/-! ### what a walk keeps -/
section
variable {w : Nat} {J : List Tg}
theorem walk_succ (i : Nat) (a : Wk) : walkW w J (i + 1) a = stepW w J (walkW w J i a) := by
  rw [walk_add]
  rfl
def BitsN (n : Nat) (b : List Nat) : Prop := b.length = n ∧ ∀ z ∈ b, z ≤ 1
theorem step_bits {n : Nat} : ∀ {a : Wk}, BitsN n a.1 → BitsN n (stepW w J a).1
  | (b, .ex x), h => h
  | (b, .pw p k), h => by
    show BitsN n (if k = 0 then b else b.set p (if k = 1 then 1 else 0))
    split
    · exact h
    · refine ⟨by rw [List.length_set]; exact h.1, fun z hz => ?_⟩
      rcases List.mem_or_eq_of_mem_set hz with q | q
      · exact h.2 z q
      · rw [q]
        split <;> omega
theorem walk_bits {n : Nat} : ∀ (i : Nat) {a : Wk}, BitsN n a.1 → BitsN n (walkW w J i a).1
  | 0, _, h => h
  | i + 1, _, h => walk_bits i (step_bits h)
theorem set_back : ∀ {b : List Nat} {p : Nat}, b.set p (b.getD p 0) = b
  | [], _ => rfl
  | _ :: _, 0 => rfl
  | c :: b, p + 1 => by
    show c :: b.set p (b.getD p 0) = _
    rw [set_back]
/-- one step, as the law's own walker goes it -/
def newBit (k c : Nat) : Nat := if k = 0 then c else if k = 1 then 1 else 0
theorem stepW_eq {b : List Nat} {p k : Nat} : stepW w J (b, .pw p k) = (b.set p (newBit k (b.getD p 0)), tgAt J (w + p * 4 + fst3 k + if k = 0 then b.getD p 0 else 0)) := by
  show (if k = 0 then b else b.set p (if k = 1 then 1 else 0), tgAt J (plc w p (fst3 k + if k = 0 then b.getD p 0 else 0))) = _
  unfold newBit plc
  by_cases h : k = 0
  · rw [if_pos h, if_pos h, if_pos h, set_back, ← Nat.add_assoc]
  · rw [if_neg h, if_neg h, if_neg h, ← Nat.add_assoc]
theorem getD_le {b : List Nat} {p : Nat} (h : ∀ z ∈ b, z ≤ 1) : b.getD p 0 ≤ 1 := by
  rw [List.getD_eq_getElem?_getD]
  cases q : b[p]? with
  | none => exact Nat.zero_le _
  | some y => exact h y (List.mem_of_getElem? q)
theorem tgAt_get' {J : List Tg} {i : Nat} (h : i < J.length) : J[i]? = some (tgAt J i) := by
  unfold tgAt
  rw [List.getD_eq_getElem?_getD, List.getElem?_eq_getElem h]
  rfl
theorem AnsW.len {most : Nat} {b xs ys : List Nat} (h : AnsW w J most b xs ys) : ys.length = xs.length := by
  induction h with
  | nil => rfl
  | cons b b' x y xs ys h t ih => rw [List.length_cons, List.length_cons, ih]
end
end Mk
namespace Mk
open PySem PySem.Spec PyProof.Rows L2
/-! ### a list or a tuple, walked -/
def iSeq (K : PySem.W.Frag) (tl : TE) : TI := fun σ H R => tl σ H fun x H1 => ∃ a, x = .ref a ∧ (((∃ xs, SqL K H1 a xs) ∧ R (Itl K a) H1) ∨ ((∃ xs, SqT K H1 a xs) ∧ R (Itt K a) H1))
theorem pi_seq {X : Cx} {tg l : Expr} {tl : TE} (hl : PE X l tl) : PI X tg l (iSeq X.K tl) := by
  refine ⟨fun pins s σ H R I h => ?_⟩
  refine thn (hl.run pins s σ H _ I h) fun v s1 ⟨x, H1, I1, r1, q1⟩ => ?_
  obtain ⟨a, e, q1⟩ := q1
  subst e
  cases r1
  rcases q1 with ⟨⟨xs, hq⟩, q⟩ | ⟨⟨xs, hq⟩, q⟩
  · obtain ⟨its, rv, p, hz⟩ := I1.list hq
    refine wpAny_pyIter_list p.isList ?_
    refine ⟨s1.heap.objs.size, [s1.heap.objs.size], _, _, H1, rfl, I1.kept (t' := s1.toks) fun b o e => Heap.get?_push_of_some _ e, turn_list a _, ⟨_, Heap.get?_push_size _ rfl, rfl, rfl⟩, fun b hb => ?_, q⟩
    have e : b = s1.heap.objs.size := by simpa using hb
    subst e
    exact I1.fpOk (Nat.le_refl _) (I1.hok.fresh (Nat.le_refl _))
  · obtain ⟨its, rv, p, hz⟩ := I1.tuple hq
    refine wpAny_pyIter_tuple (show s1.heap.IsTuple a its.toArray from p) ?_
    refine ⟨s1.heap.objs.size, [s1.heap.objs.size], _, _, H1, rfl, I1.kept (t' := s1.toks) fun b o e => Heap.get?_push_of_some _ e, turn_tuple a _, ⟨_, Heap.get?_push_size _ rfl, rfl, rfl⟩, fun b hb => ?_, q⟩
    have e : b = s1.heap.objs.size := by simpa using hb
    subst e
    exact I1.fpOk (Nat.le_refl _) (I1.hok.fresh (Nat.le_refl _))
/-! ### what a value is told as; it stands while the heap only grows -/
structure Rel where
  on : V → Hp → Prop
  up : ∀ {v : V} {H H' : Hp}, Ex H H' → on v H → on v H'
def rD (K : PySem.W.Frag) (d : PyData) : Rel := ⟨fun v H => Dp K H v d, fun e h => dp_ex e d _ h⟩
def rV (u : V) : Rel := ⟨fun v _ => v = u, fun _ h => h⟩
def Alls : List Rel → List V → Hp → Prop
  | [], [], _ => True
  | r :: rs, v :: vs, H => r.on v H ∧ Alls rs vs H
  | _, _, _ => False
theorem Alls.up {H H' : Hp} (e : Ex H H') : ∀ {rs : List Rel} {vs : List V}, Alls rs vs H → Alls rs vs H'
  | [], [], _ => trivial
  | r :: rs, v :: vs, h => ⟨r.up e h.1, Alls.up e h.2⟩
  | [], _ :: _, h => h.elim
  | _ :: _, [], h => h.elim
theorem Alls.len {H : Hp} : ∀ {rs : List Rel} {vs : List V}, Alls rs vs H → vs.length = rs.length
  | [], [], _ => rfl
  | r :: rs, v :: vs, h => by rw [List.length_cons, List.length_cons, h.2.len]
  | [], _ :: _, h => h.elim
  | _ :: _, [], h => h.elim
theorem Alls.data {K : PySem.W.Frag} {H : Hp} : ∀ {ds : List PyData} {vs : List V}, Alls (ds.map (rD K)) vs H → DpAll K H vs ds
  | [], [], _ => .nil
  | d :: ds, v :: vs, h => .cons h.1 (Alls.data h.2)
  | [], _ :: _, h => h.elim
  | _ :: _, [], h => h.elim
theorem Alls.of_data {K : PySem.W.Frag} {H : Hp} : ∀ {ds : List PyData} {vs : List V}, DpAll K H vs ds → Alls (ds.map (rD K)) vs H
  | [], _, h => by cases h; exact trivial
  | d :: ds, _, h => by
    cases h with
    | cons h1 h2 => exact ⟨h1, Alls.of_data h2⟩
theorem Alls.get {H : Hp} : ∀ {rs : List Rel} {vs : List V} {i : Nat} {r : Rel}, Alls rs vs H → rs[i]? = some r → ∃ v, vs[i]? = some v ∧ r.on v H
  | r :: rs, v :: vs, 0, _, h, e => by cases e; exact ⟨v, rfl, h.1⟩
  | r :: rs, v :: vs, i + 1, _, h, e => Alls.get (i := i) h.2 e
  | [], [], i, _, h, e => by simp at e
  | [], _ :: _, _, _, h, _ => h.elim
  | _ :: _, [], _, _, h, _ => h.elim
theorem Alls.getV {H : Hp} : ∀ {rs : List Rel} {vs : List V} {i : Nat} {v : V}, Alls rs vs H → vs[i]? = some v → ∃ r, rs[i]? = some r ∧ r.on v H
  | r :: rs, v :: vs, 0, _, h, e => by cases e; exact ⟨r, rfl, h.1⟩
  | r :: rs, v :: vs, i + 1, _, h, e => Alls.getV (i := i) h.2 e
  | [], [], i, _, h, e => by simp at e
  | [], _ :: _, _, _, h, _ => h.elim
  | _ :: _, [], _, _, h, _ => h.elim
theorem Alls.snoc {H : Hp} {r : Rel} {v : V} : ∀ {rs : List Rel} {vs : List V}, Alls rs vs H → r.on v H → Alls (rs ++ [r]) (vs ++ [v]) H
  | [], [], _, h => ⟨h, trivial⟩
  | r :: rs, v :: vs, h, h2 => ⟨h.1, Alls.snoc h.2 h2⟩
  | [], _ :: _, h, _ => h.elim
  | _ :: _, [], h, _ => h.elim
/-- it stands when a list turns -/
def Rel.But (r : Rel) : Prop := ∀ v H H' d0 xs, H d0 = some (.lst xs) → ExB d0 H H' → r.on v H → r.on v H'
theorem but_V {u : V} : (rV u).But := fun _ _ _ _ _ _ _ h => h
theorem but_D {K : PySem.W.Frag} {d : PyData} (t : tupOnly d = true) : (rD K d).But := fun v H H' d0 xs h e q => dp_but (fun a ys k => sqt_but e (noT_lst h) k) d v t q
theorem Alls.but {H H' : Hp} {d0 : Addr} {ys : List V} (h : H d0 = some (.lst ys)) (e : ExB d0 H H') : ∀ {rs : List Rel} {vs : List V}, (∀ r ∈ rs, r.But) → Alls rs vs H → Alls rs vs H'
  | [], [], _, _ => trivial
  | r :: rs, v :: vs, hb, q => ⟨hb r List.mem_cons_self v H H' d0 ys h e q.1, Alls.but h e (fun r hr => hb r (List.mem_cons_of_mem _ hr)) q.2⟩
  | [], _ :: _, _, h => h.elim
  | _ :: _, [], _, h => h.elim
/-- a list / a tuple of such -/
def rLst (K : PySem.W.Frag) (rs : List Rel) : Rel := ⟨fun v H => ∃ a xs, v = .ref a ∧ SqL K H a xs ∧ Alls rs xs H, fun e ⟨a, xs, h1, h2, h3⟩ => ⟨a, xs, h1, sql_ex e h2, h3.up e⟩⟩
theorem rLst_data {K : PySem.W.Frag} {H : Hp} {v : V} {ds : List PyData} (h : (rLst K (ds.map (rD K))).on v H) : (rD K (.list ds)).on v H := by
  obtain ⟨a, xs, rfl, h2, h3⟩ := h
  exact .lst h2 h3.data
/-- an instance, its fields by name -/
def Flds : List (Str × Rel) → List (Str × V) → Hp → Prop
  | [], [], _ => True
  | r :: rs, v :: vs, H => r.1 = v.1 ∧ r.2.on v.2 H ∧ Flds rs vs H
  | _, _, _ => False
theorem Flds.up {H H' : Hp} (e : Ex H H') : ∀ {rs : List (Str × Rel)} {vs : List (Str × V)}, Flds rs vs H → Flds rs vs H'
  | [], [], _ => trivial
  | r :: rs, v :: vs, h => ⟨h.1, r.2.up e h.2.1, Flds.up e h.2.2⟩
  | [], _ :: _, h => h.elim
  | _ :: _, [], h => h.elim
theorem Flds.look {H : Hp} {f : Str} : ∀ {rs : List (Str × Rel)} {vs : List (Str × V)} {r : Rel}, Flds rs vs H → rs.lookup f = some r → ∃ v, vs.lookup f = some v ∧ r.on v H
  | (g, r) :: rs, (g', v) :: vs, r', h, e => by
    obtain ⟨h1, h2, h3⟩ := h
    have h1 : g = g' := h1
    subst h1
    rw [List.lookup_cons] at e ⊢
    cases q : f == g with
    | true => rw [q] at e; cases e; exact ⟨v, rfl, h2⟩
    | false => rw [q] at e; exact Flds.look h3 e
  | [], [], _, h, e => by simp at e
  | [], _ :: _, _, h, _ => h.elim
  | _ :: _, [], _, h, _ => h.elim
theorem Flds.none {H : Hp} {f : Str} : ∀ {rs : List (Str × Rel)} {vs : List (Str × V)}, Flds rs vs H → rs.lookup f = none → vs.lookup f = none
  | (g, r) :: rs, (g', v) :: vs, h, e => by
    obtain ⟨h1, h2, h3⟩ := h
    have h1 : g = g' := h1
    subst h1
    rw [List.lookup_cons] at e ⊢
    cases q : f == g with
    | true => rw [q] at e; cases e
    | false => rw [q] at e; exact Flds.none h3 e
  | [], [], h, e => rfl
  | [], _ :: _, h, _ => h.elim
  | _ :: _, [], h, _ => h.elim
def rIns (C : Addr) (F : List (Str × Rel)) : Rel := ⟨fun v H => ∃ a dx fs, v = .ref a ∧ H a = some (.ins C dx fs) ∧ Flds F fs H, fun e ⟨a, dx, fs, h1, h2, h3⟩ => ⟨a, dx, fs, h1, e _ _ h2, h3.up e⟩⟩
theorem Flds.but {H H' : Hp} {d0 : Addr} {ys : List V} (h : H d0 = some (.lst ys)) (e : ExB d0 H H') : ∀ {rs : List (Str × Rel)} {vs : List (Str × V)}, (∀ r ∈ rs, r.2.But) → Flds rs vs H → Flds rs vs H'
  | [], [], _, _ => trivial
  | r :: rs, v :: vs, hb, q => ⟨q.1, hb r List.mem_cons_self v.2 H H' d0 ys h e q.2.1, Flds.but h e (fun r hr => hb r (List.mem_cons_of_mem _ hr)) q.2.2⟩
  | [], _ :: _, _, h => h.elim
  | _ :: _, [], _, h => h.elim
theorem but_I {C : Addr} {F : List (Str × Rel)} (hb : ∀ r ∈ F, r.2.But) : (rIns C F).But := fun v H H' d0 ys h e ⟨a, dx, fs, h1, h2, h3⟩ =>
  ⟨a, dx, fs, h1, e _ _ (fun z => by rw [z, h] at h2; cases h2) h2, Flds.but h e hb h3⟩
/-! ### an expression that only makes things -/
def GD (te : TE) (σ : L2.St) (H : Hp) (r : Rel) : Prop := ∀ H1, Ex H H1 → ∀ Q : VK, (∀ v H2, Ex H1 H2 → r.on v H2 → Q v H2) → te σ H1 Q
def GA (ta : TA) (σ : L2.St) (H : Hp) (rs : List Rel) : Prop := ∀ H1, Ex H H1 → ∀ Q : List V → Hp → Prop, (∀ vs H2, Ex H1 H2 → Alls rs vs H2 → Q vs H2) → ta σ H1 Q
section
variable {K : PySem.W.Frag} {σ : L2.St} {H H' : Hp} {ta tb te tx : TE} {tt : TA} {x y z v : V} {r : Rel} {rs : List Rel} {d : PyData} {ds : List PyData}
theorem GD.mono (e : Ex H H') (h : GD te σ H r) : GD te σ H' r := fun H1 a Q q => h H1 (Ex.tr e a) Q q
theorem GA.mono (e : Ex H H') (h : GA tt σ H rs) : GA tt σ H' rs := fun H1 a Q q => h H1 (Ex.tr e a) Q q
theorem gd_v {i : Nat} (h : σ[i]? = some (some v)) (hr : r.on v H) : GD (tVar i) σ H r := fun H1 e Q q => ⟨v, h, q v H1 Ex.rfl' (r.up e hr)⟩
theorem gd_ev (h : Evl.Ev te σ H v) (hr : r.on v H) : GD te σ H r := fun H1 e Q q => h H1 e Q fun H2 e2 => q v H2 e2 (r.up (Ex.tr e e2) hr)
theorem ev_gd (h : GD te σ H (rV v)) : Evl.Ev te σ H v := fun H1 e Q q => h H1 e Q fun v' H2 e2 hr => by
  have hr : v' = v := hr
  subst hr
  exact q H2 e2
theorem gd_to {r' : Rel} (h : GD te σ H r) (k : ∀ v H2, Ex H H2 → r.on v H2 → r'.on v H2) : GD te σ H r' := fun H1 e Q q => h H1 e Q fun v H2 e2 hr => q v H2 e2 (k v H2 (Ex.tr e e2) hr)
theorem gd_int {i : Int} (h : GD te σ H (rD K (.int i))) : Evl.Ev te σ H (.int i) := ev_gd (gd_to h fun v _ _ q => dp_int q)
theorem gd_fld {C : Addr} {F : List (Str × Rel)} {f : Str} (h : GD ta σ H (rIns C F)) (c : Cls K C) (n : NoAttr K C f) (e : F.lookup f = some r := by rfl) : GD (tFld K ta f) σ H r := fun H1 e1 Q q =>
  h H1 e1 _ fun x H2 e2 ⟨a, dx, fs, h1, h2, h3⟩ => let ⟨v, h4, h5⟩ := h3.look e; ⟨a, C, dx, fs, v, h1, h2, c, n, h4, q v H2 e2 h5⟩
theorem ev_fld {C : Addr} {F : List (Str × Rel)} {f : Str} (h : GD ta σ H (rIns C F)) (c : Cls K C) (n : NoAttr K C f) (e : F.lookup f = some (rV v) := by rfl) : Evl.Ev (tFld K ta f) σ H v := ev_gd (gd_fld h c n e)
theorem ga_nil : GA tNil σ H [] := fun H1 _ Q q => q [] H1 Ex.rfl' trivial
theorem ga_cons (h : GD te σ H r) (hr : GA tt σ H rs) : GA (tCons te tt) σ H (r :: rs) := fun H1 e Q q =>
  h H1 e _ fun x H2 e2 hx => hr H2 (Ex.tr e e2) _ fun xs H3 e3 hxs => q _ H3 (Ex.tr e2 e3) ⟨r.up e3 hx, hxs⟩
theorem ga_ev (h : Evl.Ev te σ H v) (hr : GA tt σ H rs) : GA (tCons te tt) σ H (rV v :: rs) := ga_cons (gd_ev h (r := rV v) rfl) hr
theorem ga_int {i : Int} (h : Evl.Ev te σ H (.int i)) (hr : GA tt σ H rs) : GA (tCons te tt) σ H (rD K (.int i) :: rs) := ga_cons (gd_ev h (r := rD K (.int i)) (Dp.int i)) hr
theorem ga_1 (h : GD te σ H r) : GA (tCons te tNil) σ H [r] := ga_cons h ga_nil
theorem gd_tup (h : GA tt σ H (ds.map (rD K))) (hl : ds.length ≤ 100000) : GD (tTup tt) σ H (rD K (.tuple ds)) := fun H1 e Q q =>
  h H1 e _ fun xs H2 e2 hx => ⟨Evl.sz_of (by have := hx.len; simp at this; omega), fun p hp => q _ _ (Ex.tr e2 (Ex.nw hp)) (.tup (Evl.st_of upd_same) (dpa_ex (Ex.nw hp) _ _ hx.data))⟩
theorem gd_lst (h : GA tt σ H (ds.map (rD K))) (hl : ds.length ≤ 100000) : GD (tLst tt) σ H (rD K (.list ds)) := fun H1 e Q q =>
  h H1 e _ fun xs H2 e2 hx => ⟨Evl.sz_of (by have := hx.len; simp at this; omega), fun p hp => q _ _ (Ex.tr e2 (Ex.nw hp)) (.lst (Evl.sq_of upd_same) (dpa_ex (Ex.nw hp) _ _ hx.data))⟩
theorem atI_nat {α : Type} {xs : List α} {j : Nat} {x : α} (h : xs[j]? = some x) : atI xs ((j : Nat) : Int) = some x := by
  have hl := (List.getElem?_eq_some_iff.mp h).1
  unfold atI ixN
  rw [if_pos (show (0 : Int) ≤ (j : Int) by omega), if_pos (show (j : Int) < (xs.length : Int) by omega), Int.toNat_natCast]
  exact h
theorem dpa_atI {vs : List V} {i : Int} (h : DpAll K H vs ds) (e : atI ds i = some d) : ∃ v, atI vs i = some v ∧ Dp K H v d := by
  unfold atI at e ⊢
  rw [dpa_len h]
  cases q : ixN ds.length i with
  | none => rw [q] at e; cases e
  | some j => rw [q] at e; exact dpa_get h e
theorem gd_ixT {i : Int} (h : GD ta σ H (rD K (.tuple ds))) (hi : Evl.Ev tb σ H (.int i)) (e : atI ds i = some d) : GD (tOp (rIxT K) ta tb) σ H (rD K d) := fun H1 e1 Q q =>
  h H1 e1 _ fun x H2 e2 hx => hi H2 (Ex.tr e1 e2) _ fun H3 e3 => by
    obtain ⟨a, xs, rfl, h1, h2⟩ := dp_tup (dp_ex e3 _ _ hx)
    obtain ⟨v, h4, h5⟩ := dpa_atI h2 e
    exact ⟨a, xs, i, v, rfl, rfl, h1, h4, q v H3 (Ex.tr e2 e3) h5⟩
theorem gd_ixL {i : Int} (h : GD ta σ H (rD K (.list ds))) (hi : Evl.Ev tb σ H (.int i)) (e : atI ds i = some d) : GD (tOp (rIxL K) ta tb) σ H (rD K d) := fun H1 e1 Q q =>
  h H1 e1 _ fun x H2 e2 hx => hi H2 (Ex.tr e1 e2) _ fun H3 e3 => by
    obtain ⟨a, xs, rfl, h1, h2⟩ := dp_lst (dp_ex e3 _ _ hx)
    obtain ⟨v, h4, h5⟩ := dpa_atI h2 e
    exact ⟨a, xs, i, v, rfl, rfl, h1, h4, q v H3 (Ex.tr e2 e3) h5⟩
theorem gd_ixLr {i : Nat} (h : GD ta σ H (rLst K rs)) (hi : Evl.Ev tb σ H (.int ((i : Nat) : Int))) (e : rs[i]? = some r) : GD (tOp (rIxL K) ta tb) σ H r := fun H1 e1 Q q =>
  h H1 e1 _ fun x H2 e2 hx => hi H2 (Ex.tr e1 e2) _ fun H3 e3 => by
    obtain ⟨a, xs, rfl, h1, h2⟩ := (rLst K rs).up e3 hx
    obtain ⟨v, h4, h5⟩ := h2.get e
    exact ⟨a, xs, _, v, rfl, rfl, h1, atI_nat h4, q v H3 (Ex.tr e2 e3) h5⟩
/-- a sequence: a list or a tuple of ds -/
def SeqD : PyData → List PyData → Prop := fun d ds => d = .list ds ∨ d = .tuple ds
theorem seq_at {d : PyData} {v : V} (s : SeqD d ds) (h : Dp K H v d) : ∃ a xs, v = .ref a ∧ (SqL K H a xs ∨ SqT K H a xs) ∧ DpAll K H xs ds := by
  rcases s with rfl | rfl
  · obtain ⟨a, xs, h1, h2, h3⟩ := dp_lst h
    exact ⟨a, xs, h1, .inl h2, h3⟩
  · obtain ⟨a, xs, h1, h2, h3⟩ := dp_tup h
    exact ⟨a, xs, h1, .inr h2, h3⟩
theorem ev_lenS (h : GD ta σ H (rD K d)) (s : SeqD d ds) : Evl.Ev (tCB (fun xs H Q => ∃ p ys, xs = [.ref p] ∧ (SqL K H p ys ∨ SqT K H p ys) ∧ Q (.int ys.length) H) (tCons ta tNil)) σ H (.int (ds.length : Int)) := fun H1 e Q q =>
  h H1 e _ fun x H2 e2 hx => by
    obtain ⟨a, xs, rfl, h1, h2⟩ := seq_at s hx
    refine ⟨a, xs, rfl, h1, ?_⟩
    rw [dpa_len h2]
    exact q H2 e2
theorem ev_lenR (h : GD ta σ H (rLst K rs)) : Evl.Ev (tCB (fun xs H Q => ∃ p ys, xs = [.ref p] ∧ (SqL K H p ys ∨ SqT K H p ys) ∧ Q (.int ys.length) H) (tCons ta tNil)) σ H (.int (rs.length : Int)) := fun H1 e Q q =>
  h H1 e _ fun x H2 e2 ⟨a, xs, h0, h1, h2⟩ => by
    subst h0
    refine ⟨a, xs, rfl, .inl h1, ?_⟩
    rw [h2.len]
    exact q H2 e2
theorem gd_tupOf (h : GD ta σ H (rD K d)) (s : SeqD d ds) : GD (tCB (fun xs H Q => ∃ p ys, xs = [.ref p] ∧ ((SqL K H p ys ∧ ∀ l, H l = none → Q (.ref l) (upd H l (.tup ys))) ∨ (SqT K H p ys ∧ Q (.ref p) H))) (tCons ta tNil)) σ H (rD K (.tuple ds)) := fun H1 e Q q =>
  h H1 e _ fun x H2 e2 hx => by
    obtain ⟨a, xs, rfl, h1, h2⟩ := seq_at s hx
    rcases h1 with h1 | h1
    · exact ⟨a, xs, rfl, .inl ⟨h1, fun l hl => q _ _ (Ex.tr e2 (Ex.nw hl)) (.tup (Evl.st_of upd_same) (dpa_ex (Ex.nw hl) _ _ h2))⟩⟩
    · exact ⟨a, xs, rfl, .inr ⟨h1, q _ H2 e2 (.tup h1 h2)⟩⟩
theorem gd_listOf (h : GD ta σ H (rD K d)) (s : SeqD d ds) : GD (tCB (fun xs H Q => ∃ p ys, xs = [.ref p] ∧ (SqL K H p ys ∨ SqT K H p ys) ∧ ∀ l, H l = none → Q (.ref l) (upd H l (.lst ys))) (tCons ta tNil)) σ H (rD K (.list ds)) := fun H1 e Q q =>
  h H1 e _ fun x H2 e2 hx => by
    obtain ⟨a, xs, rfl, h1, h2⟩ := seq_at s hx
    exact ⟨a, xs, rfl, h1, fun l hl => q _ _ (Ex.tr e2 (Ex.nw hl)) (.lst (Evl.sq_of upd_same) (dpa_ex (Ex.nw hl) _ _ h2))⟩
/-- conditional -/
theorem gd_if {t : TT} {b : Bool} (h : Evl.EvT t σ H b) (h1 : b = true → GD ta σ H r) (h2 : b = false → GD tb σ H r) : GD (tIf t ta tb) σ H r := fun H1 e Q q => h H1 e _ fun H2 e2 => by
  cases b with
  | true => exact h1 rfl H2 (Ex.tr e e2) Q fun v H3 e3 => q v H3 (Ex.tr e2 e3)
  | false => exact h2 rfl H2 (Ex.tr e e2) Q fun v H3 e3 => q v H3 (Ex.tr e2 e3)
/-! ### statements -/
variable {D : Ends} {tz : TS} {t : TT} {tu tw : TS}
theorem g_ret (h : GD te σ H r) (k : ∀ v H2, Ex H H2 → r.on v H2 → D.rt v H2) : tRet te D σ H := h H Ex.rfl' _ fun v H2 e2 hr => k v H2 e2 hr
theorem g_asg {i : Nat} (h : GD te σ H r) (k : ∀ v H1, Ex H H1 → r.on v H1 → tz D (σ.set i (some v)) H1) : tSeq (tAsg te (gName i)) tz D σ H := h H Ex.rfl' _ fun v H2 e2 hr => k v H2 e2 hr
theorem g_asg' {i : Nat} (h : GD te σ H r) (k : ∀ v H1, Ex H H1 → r.on v H1 → D.nx (σ.set i (some v)) H1) : tAsg te (gName i) D σ H := h H Ex.rfl' _ fun v H2 e2 hr => k v H2 e2 hr
/-! ### calls -/
def SpR (rel : List Rel → Rel → Prop) : Sp := fun vs H Q E => ∃ rs r, rel rs r ∧ Alls rs vs H ∧ ∀ v H', Ex H H' → r.on v H' → Q v H'
theorem gd_call {rel : List Rel → Rel → Prop} (h : GA tt σ H rs) (k : rel rs r) : GD (tCall (SpR rel) [] E0 tt) σ H r := fun H1 e Q q =>
  h H1 e _ fun vs H2 e2 hv => ⟨rs, r, k, by rw [List.append_nil]; exact hv, fun v H3 e3 hr => q v H3 (Ex.tr e2 e3) hr⟩
theorem gd_call1 {rel : List Rel → Rel → Prop} {u : V} (h : GA tt σ H rs) (k : rel (rs ++ [rV u]) r) : GD (tCall (SpR rel) [u] E0 tt) σ H r := fun H1 e Q q =>
  h H1 e _ fun vs H2 e2 hv => ⟨rs ++ [rV u], r, k, hv.snoc (r := rV u) rfl, fun v H3 e3 hr => q v H3 (Ex.tr e2 e3) hr⟩
theorem gd_meth {rel : List Rel → Rel → Prop} {C : Addr} {m : Str} {F : List (Str × Rel)} (h : GD ta σ H (rIns C F)) (hm : F.lookup m = none) (ha : GA tt σ H rs) (k : rel (rIns C F :: rs) r) : GD (tMeth C m (SpR rel) [] E0 ta tt) σ H r := fun H1 e Q q =>
  h H1 e _ fun x H2 e2 hx => by
    obtain ⟨a, dx, fs, h1, h2, h3⟩ := id hx
    refine ⟨a, dx, fs, h1, h2, h3.none hm, ha H2 (Ex.tr e e2) _ fun vs H3 e3 hv => ⟨_, r, k, ?_, fun v H4 e4 hr => q v H4 (Ex.tr (Ex.tr e2 e3) e4) hr⟩⟩
    rw [List.append_nil]
    exact ⟨(rIns C F).up e3 hx, hv⟩
/-- __init__: told by its arguments (as they lie in B, ahead of the new instance) what fields stand behind it -/
def SpI (C : Addr) (rel : List Rel → List (Str × Rel) → Prop) : Sp := fun vs H Q E => ∃ x dx us rs F B, vs = .ref x :: us ∧ B x = none ∧ Ex B H ∧ H x = some (.ins C dx []) ∧ rel rs F ∧ Alls rs us B ∧ ∀ H', ExB x H H' → (∃ fs, H' x = some (.ins C dx fs) ∧ Flds F fs H') → Q .non H'
theorem gd_make {C : Addr} {rel : List Rel → List (Str × Rel) → Prop} {F : List (Str × Rel)} (h : GA tt σ H rs) (k : rel rs F) : GD (tMake C (SpI C rel) [] E0 tt) σ H (rIns C F) := fun H1 e Q q =>
  h H1 e _ fun vs H2 e2 hv x dx hx hdx hne => by
    have e3 : Ex H2 (upd (upd H2 dx (.own x)) x (.ins C dx [])) := Ex.tr (Ex.nw hdx) (Ex.nw (by rw [upd_ne (Ne.symm hne)]; exact hx))
    refine ⟨x, dx, _, rs, F, H2, rfl, hx, e3, upd_same, k, ?_, fun H' b ⟨fs, h1, h2⟩ => ⟨rfl, q _ H' (Ex.tr e2 (ExB.ex e3 b hx)) ⟨x, dx, fs, rfl, h1, h2⟩⟩⟩
    rw [List.append_nil]
    exact hv
/-! ### walks -/
def GI (S : Hp → Hp → Prop) (wi : TI) (σ : L2.St) (H : Hp) {α : Type} (ms : List α) (e : α → Rel) : Prop := ∀ H1, Ex H H1 → ∀ R : It → Hp → Prop, (∀ J H2, Ex H1 H2 → Walk J ms.length (S H2) (fun i H x H' => Ex H H' ∧ ∃ m, ms[i]? = some m ∧ (e m).on x H') → R J H2) → wi σ H1 R
variable {α : Type} {ms : List α} {e : α → Rel} {ti : TI}
theorem alls_at {xs : List V} {i : Nat} {x : V} (h : Alls (ms.map e) xs H) (hx : xs[i]? = some x) : ∃ m, ms[i]? = some m ∧ (e m).on x H := by
  obtain ⟨r, h1, h2⟩ := h.getV hx
  rw [List.getElem?_map] at h1
  cases q : ms[i]? with
  | none => rw [q] at h1; cases h1
  | some m => rw [q] at h1; cases h1; exact ⟨m, rfl, h2⟩
theorem dpa_map {α : Type} {ms : List α} {f : α → PyData} {xs : List V} (h : DpAll K H xs (ms.map f)) : Alls (ms.map fun m => rD K (f m)) xs H := by
  have := Alls.of_data h
  rw [List.map_map] at this
  exact this
theorem gi_listR (h : GD ta σ H (rLst K (ms.map e))) : GI Ex (iList K ta) σ H ms e := fun H1 e1 R q =>
  h H1 e1 _ fun x H2 e2 ⟨a, xs, h0, h1, h2⟩ => ⟨a, h0, ⟨xs, h1⟩, q _ H2 e2 (by
    have hl : ms.length = xs.length := by have := h2.len; simpa using this.symm
    rw [hl]
    exact walk_list.mono (fun H3 e3 => sql_ex e3 h1) fun i H3 x H4 hi e3 y => ⟨by rw [y.1]; exact Ex.rfl', by rw [y.1]; exact alls_at (h2.up e3) y.2⟩)⟩
theorem gi_list {f : α → PyData} (h : GD ta σ H (rD K (.list (ms.map f)))) : GI Ex (iList K ta) σ H ms (fun m => rD K (f m)) := gi_listR (gd_to h fun v H2 _ q => by
  obtain ⟨a, xs, rfl, h1, h2⟩ := dp_lst q
  exact ⟨a, xs, rfl, h1, dpa_map h2⟩)
theorem gi_tup {f : α → PyData} (h : GD ta σ H (rD K (.tuple (ms.map f)))) : GI Ex (iTup K ta) σ H ms (fun m => rD K (f m)) := fun H1 e1 R q =>
  h H1 e1 _ fun x H2 e2 hx => by
    obtain ⟨a, xs, rfl, h1, h2⟩ := dp_tup hx
    have h2 := dpa_map h2
    refine ⟨a, rfl, ⟨xs, h1⟩, q _ H2 e2 ?_⟩
    have hl : ms.length = xs.length := by have := h2.len; simpa using this.symm
    rw [hl]
    exact walk_tup.mono (fun H3 e3 => sqt_ex e3 h1) fun i H3 x H4 hi e3 y => ⟨by rw [y.1]; exact Ex.rfl', by rw [y.1]; exact alls_at (h2.up e3) y.2⟩
theorem gi_seq {f : α → PyData} (h : GD ta σ H (rD K d)) (s : SeqD d (ms.map f)) : GI Ex (iSeq K ta) σ H ms (fun m => rD K (f m)) := fun H1 e1 R q =>
  h H1 e1 _ fun x H2 e2 hx => by
    obtain ⟨a, xs, rfl, h1, h2⟩ := seq_at s hx
    have h2 := dpa_map h2
    have hl : ms.length = xs.length := by have := h2.len; simpa using this.symm
    refine ⟨a, rfl, ?_⟩
    rcases h1 with h1 | h1
    · refine .inl ⟨⟨xs, h1⟩, q _ H2 e2 ?_⟩
      rw [hl]
      exact walk_list.mono (fun H3 e3 => sql_ex e3 h1) fun i H3 x H4 hi e3 y => ⟨by rw [y.1]; exact Ex.rfl', by rw [y.1]; exact alls_at (h2.up e3) y.2⟩
    · refine .inr ⟨⟨xs, h1⟩, q _ H2 e2 ?_⟩
      rw [hl]
      exact walk_tup.mono (fun H3 e3 => sqt_ex e3 h1) fun i H3 x H4 hi e3 y => ⟨by rw [y.1]; exact Ex.rfl', by rw [y.1]; exact alls_at (h2.up e3) y.2⟩
theorem gi_rng1 {S : Hp → Hp → Prop} {n : Nat} (h : Evl.Ev ta σ H (.int (n : Int))) (hn : n ≤ 100000) : GI S (iRng1 (tCons ta tNil)) σ H (List.range n) (fun i => rV (.int (i : Int))) := fun H1 e1 R q =>
  h H1 e1 _ fun H2 e2 => ⟨(n : Int), rfl, by omega, by omega, q _ H2 e2 (by
    rw [List.length_range, Int.toNat_natCast]
    exact walk_range.mono (fun _ _ => trivial) fun i H3 x H4 hi _ y => ⟨by rw [y.1]; exact Ex.rfl', i, by simp [hi], by rw [y.2]; show V.int _ = V.int _; rw [Int.zero_add]⟩)⟩
theorem gi_rng2 {S : Hp → Hp → Prop} {lo n : Nat} (ha : Evl.Ev ta σ H (.int (lo : Int))) (h : Evl.Ev tb σ H (.int (n : Int))) (hl : lo ≤ 100000) (hn : n ≤ 100000) : GI S (iRng2 (tCons ta (tCons tb tNil))) σ H (List.range' lo (n - lo)) (fun i => rV (.int (i : Int))) := fun H1 e1 R q =>
  ha H1 e1 _ fun H2 e2 => h H2 (Ex.tr e1 e2) _ fun H3 e3 => ⟨(lo : Int), (n : Int), rfl, by omega, q _ H3 (Ex.tr e2 e3) (by
    have e : ((n : Int) - (lo : Int)).toNat = n - lo := by omega
    rw [List.length_range', e]
    exact walk_range.mono (fun _ _ => trivial) fun i H3 x H4 hi _ y => ⟨by rw [y.1]; exact Ex.rfl', lo + i, by rw [List.getElem?_range' (by omega)]; simp, by rw [y.2]; show V.int _ = V.int _; congr 1⟩)⟩
theorem walk_enumT {a : Addr} {xs : List V} {H0 : Hp} (h0 : SqT K H0 a xs) : Walk (IteT K a xs) xs.length (fun H => SqT K H a xs) (YPair (fun i => some (.int (i : Nat))) (fun i => xs[i]?)) :=
  ⟨fun i _ hi q => ⟨q, hi⟩, fun _ q => ⟨q, rfl⟩, fun i H v H' _ q y => by
    obtain ⟨T, x, h1, h2, h3, h4⟩ := y
    exact ⟨T, .int (i : Nat), x, h2, h3, h4, rfl, h1⟩⟩
theorem enum_at {f : α → PyData} {xs : List V} {i : Nat} {x : V} {H3 H4 : Hp} (h2 : Alls (ms.map fun m => rD K (f m)) xs H3) (hi : i < xs.length) (y : YPair (fun i => some (.int (i : Nat))) (fun i => xs[i]?) i H3 x H4) :
    Ex H3 H4 ∧ ∃ m, ms.zipIdx[i]? = some m ∧ (rD K (.tuple [.int (m.2 : Nat), f m.1])).on x H4 := by
  obtain ⟨T, u, z, rfl, h3, rfl, h5, h6⟩ := y
  cases h5
  obtain ⟨m, h7, h8⟩ := alls_at h2 h6
  refine ⟨Ex.nw h3, (m, i), by rw [List.getElem?_zipIdx, h7]; simp, .tup (Evl.st_of upd_same) (.cons (.int _) (.cons ((rD K (f m)).up (Ex.nw h3) h8) .nil))⟩
theorem gi_enum {f : α → PyData} (h : GD ta σ H (rD K (.list (ms.map f)))) : GI Ex (iEnum K (tCons ta tNil)) σ H ms.zipIdx (fun m => rD K (.tuple [.int (m.2 : Nat), f m.1])) := fun H1 e1 R q =>
  h H1 e1 _ fun x H2 e2 hx => by
    obtain ⟨a, xs, rfl, h1, h2⟩ := dp_lst hx
    have h2 := dpa_map h2
    refine ⟨a, xs, rfl, h1, q _ H2 e2 ?_⟩
    have hl : ms.zipIdx.length = xs.length := by have := h2.len; simpa using this.symm
    rw [hl]
    exact walk_enum.mono (fun H3 e3 => sql_ex e3 h1) fun i H3 x H4 hi e3 y => enum_at (h2.up e3) hi y
theorem gi_enumT {f : α → PyData} (h : GD ta σ H (rD K (.tuple (ms.map f)))) : GI Ex (iEnumT K (tCons ta tNil)) σ H ms.zipIdx (fun m => rD K (.tuple [.int (m.2 : Nat), f m.1])) := fun H1 e1 R q =>
  h H1 e1 _ fun x H2 e2 hx => by
    obtain ⟨a, xs, rfl, h1, h2⟩ := dp_tup hx
    have h2 := dpa_map h2
    refine ⟨a, xs, rfl, h1, q _ H2 e2 ?_⟩
    have hl : ms.zipIdx.length = xs.length := by have := h2.len; simpa using this.symm
    rw [hl]
    exact (walk_enumT h1).mono (fun H3 e3 => sqt_ex e3 h1) fun i H3 x H4 hi e3 y => enum_at (h2.up e3) hi y
/-! ### for, comprehension -/
theorem g_for {S : Hp → Hp → Prop} {g : TG} (h : GI S ti σ H ms e) (Pv : Hp → Nat → L2.St → Hp → Prop) (h0 : ∀ H2, Ex H H2 → Pv H2 0 σ H2) (hx : ∀ H2 i σ' H', Pv H2 i σ' H' → S H2 H')
    (hs : ∀ H2 i m x σ' H' H'', ms[i]? = some m → Pv H2 i σ' H' → Ex H' H'' → (e m).on x H'' → g x σ' H'' fun σ2 H3 => tu { D with nx := Pv H2 (i + 1), ct := Pv H2 (i + 1), bk := D.nx } σ2 H3) (hd : ∀ H2 σ' H', Pv H2 ms.length σ' H' → D.nx σ' H') : tFor ti g tu D σ H :=
  h H Ex.rfl' _ fun J H2 e2 w => for_it w (Pv H2) (h0 H2 e2) (fun i σ' H' _ p => hx H2 i σ' H' p) (fun i x σ' H' H'' hi p y => by
    obtain ⟨e3, m, hm, hr⟩ := y
    exact hs H2 i m x σ' H' H'' hm p e3 hr) (fun σ' H' p => hd H2 σ' H' p)
theorem gq_for {S : Hp → Hp → Prop} {g : TG} (h : GI S ti σ H ms e) (Pv : Hp → Nat → L2.St → Hp → Prop) (h0 : ∀ H2, Ex H H2 → Pv H2 0 σ H2) (hx : ∀ H2 i σ' H', Pv H2 i σ' H' → S H2 H')
    (hs : ∀ H2 i m x σ' H' H'', ms[i]? = some m → Pv H2 i σ' H' → Ex H' H'' → (e m).on x H'' → g x σ' H'' fun σ2 H3 => tu { D with nx := Pv H2 (i + 1), ct := Pv H2 (i + 1), bk := tz D } σ2 H3) (hd : ∀ H2 σ' H', Pv H2 ms.length σ' H' → tz D σ' H') : tSeq (tFor ti g tu) tz D σ H :=
  g_for (D := { D with nx := tz D }) h Pv h0 hx hs hd
theorem filter_take_succ {p : α → Bool} {i : Nat} {m : α} (h : ms[i]? = some m) : (ms.take (i + 1)).filter p = (ms.take i).filter p ++ (if p m then [m] else []) := by
  rw [List.take_succ, h, List.filter_append]
  show _ ++ [m].filter p = _
  rw [List.filter_cons]
  split <;> simp_all
/-- a new list, its items told -/
def GL (te : TE) (σ : L2.St) (H : Hp) (rs : List Rel) : Prop := ∀ H1, Ex H H1 → ∀ Q : VK, (∀ p xs H2, H1 p = none → Ex H1 H2 → H2 p = some (.lst xs) → Alls rs xs H2 → Q (.ref p) H2) → te σ H1 Q
theorem GL.gd (h : GL te σ H rs) : GD te σ H (rLst K rs) := fun H1 e Q q => h H1 e Q fun p xs H2 _ e2 h1 h2 => q _ H2 e2 ⟨p, xs, rfl, Evl.sq_of h1, h2⟩
theorem gl_lcR {g : TG} {vs : List Nat} {t : TT} (p : α → Bool) (f : α → Rel) (h : GI Ex ti σ H ms e) (hz : ms.length ≤ 90000)
    (hs : ∀ m ∈ ms, ∀ x H1, Ex H H1 → (e m).on x H1 → g x (wipe σ vs) H1 fun σ2 H2 => Ex H1 H2 ∧ wipe σ2 vs = wipe σ vs ∧ Evl.EvT t σ2 H2 (p m) ∧ (p m = true → GD te σ2 H2 (f m)))
    (hb : ∀ m, (f m).But) (hg : ∀ x σ0 H0 (Q Q' : L2.St → Hp → Prop), g x σ0 H0 Q → (∀ a b, Q a b → Q' a b) → g x σ0 H0 Q') :
    GL (tLc ti g t te vs) σ H (((ms.filter p)).map f) := fun H1 e1 Q q => h H1 e1 _ fun J H2 e2 w Dl hD => by
  refine lc_it w (fun i H' => Ex H2 H' ∧ ∃ xs, H' Dl = some (.lst xs) ∧ Alls (((ms.take i).filter p).map f) xs H') ⟨Ex.nw hD, [], upd_same, by simp [Alls]⟩ (fun i H' _ q => q.1) ?_ ?_
  · rintro i x H3 H4 hi ⟨e3, xs, h1, h2⟩ ⟨e4, m, hm, hr⟩
    refine hg x _ H4 _ _ (hs m (List.mem_of_getElem? hm) x H4 (Ex.tr e1 (Ex.tr e2 (Ex.tr e3 e4))) hr) ?_
    rintro σ2 H5 ⟨e5, hw, ht, he⟩
    refine ⟨hw, ht H5 Ex.rfl' _ fun H6 e6 => ?_⟩
    have hDn : H2 Dl = none := hD
    cases hp : p m with
    | true =>
      show te σ2 H6 _
      refine he hp H6 e6 _ fun y H7 e7 hy => ⟨xs, e7 _ _ (e6 _ _ (e5 _ _ (e4 _ _ h1))), ?_, ?_, ?_⟩
      · refine Evl.sz_lt ?_
        have a1 := h2.len
        rw [List.length_map] at a1
        have a2 := List.length_filter_le p (ms.take i)
        rw [List.length_take] at a2
        omega
      · exact Ex.tr e3 (Ex.tr e4 (Ex.tr e5 (Ex.tr e6 e7))) |> fun z => Evl.Ex.mut z hDn
      · refine ⟨xs ++ [y], upd_same, ?_⟩
        rw [filter_take_succ hm, if_pos hp, List.map_append]
        have h7 := e7 _ _ (e6 _ _ (e5 _ _ (e4 _ _ h1)))
        exact Alls.snoc (Alls.but h7 (ExB.upd Dl H7 _) (fun r hr => by obtain ⟨z, _, rfl⟩ := List.mem_map.mp hr; exact hb z) (h2.up (Ex.tr e4 (Ex.tr e5 (Ex.tr e6 e7))))) (hb m y H7 _ Dl _ h7 (ExB.upd Dl H7 _) hy)
    | false =>
      show Ex H2 H6 ∧ _
      refine ⟨Ex.tr e3 (Ex.tr e4 (Ex.tr e5 e6)), xs, e6 _ _ (e5 _ _ (e4 _ _ h1)), ?_⟩
      rw [filter_take_succ hm, if_neg (by simp [hp]), List.append_nil]
      exact h2.up (Ex.tr e4 (Ex.tr e5 e6))
  · rintro H3 ⟨e3, xs, h1, h2⟩
    rw [List.take_length] at h2
    exact q Dl xs H3 (Evl.fresh_back e2 hD) (Ex.tr e2 e3) h1 h2
theorem gd_lcR {g : TG} {vs : List Nat} {t : TT} (p : α → Bool) (f : α → Rel) (h : GI Ex ti σ H ms e) (hz : ms.length ≤ 90000)
    (hs : ∀ m ∈ ms, ∀ x H1, Ex H H1 → (e m).on x H1 → g x (wipe σ vs) H1 fun σ2 H2 => Ex H1 H2 ∧ wipe σ2 vs = wipe σ vs ∧ Evl.EvT t σ2 H2 (p m) ∧ (p m = true → GD te σ2 H2 (f m)))
    (hb : ∀ m, (f m).But) (hg : ∀ x σ0 H0 (Q Q' : L2.St → Hp → Prop), g x σ0 H0 Q → (∀ a b, Q a b → Q' a b) → g x σ0 H0 Q') :
    GD (tLc ti g t te vs) σ H (rLst K (((ms.filter p)).map f)) := (gl_lcR p f h hz hs hb hg).gd
/-- a list of new lists, no list within these -/
theorem Alls.butT {d0 : Addr} {xs : List V} {ds : List PyData} (h : H d0 = some (.lst xs)) (e : ExB d0 H H') {vs : List V} (t : tupOnlyAll ds = true) (q : DpAll K H vs ds) : DpAll K H' vs ds := dpa_but (fun _ _ k => sqt_but e (noT_lst h) k) ds vs t q
def rLf (K : PySem.W.Frag) (Dl : Addr) (ds : List PyData) : Rel := ⟨fun v H => ∃ q xs, v = .ref q ∧ q ≠ Dl ∧ H q = some (.lst xs) ∧ DpAll K H xs ds, fun e ⟨q, xs, h1, h2, h3, h4⟩ => ⟨q, xs, h1, h2, e _ _ h3, dpa_ex e _ _ h4⟩⟩
theorem rLf_but {Dl : Addr} {ds : List PyData} {v : V} {xs : List V} (t : tupOnlyAll ds = true) (h : H Dl = some (.lst xs)) (e : ExB Dl H H') (q : (rLf K Dl ds).on v H) : (rLf K Dl ds).on v H' := by
  obtain ⟨a, ys, h1, h2, h3, h4⟩ := q
  exact ⟨a, ys, h1, h2, e _ _ h2 h3, Alls.butT h e t h4⟩
theorem rLf_buts {α : Type} {Dl : Addr} {ds : α → List PyData} {xs : List V} (t : ∀ m, tupOnlyAll (ds m) = true) (h : H Dl = some (.lst xs)) (e : ExB Dl H H') : ∀ {l : List α} {vs : List V}, Alls (l.map fun m => rLf K Dl (ds m)) vs H → Alls (l.map fun m => rLf K Dl (ds m)) vs H'
  | [], [], _ => trivial
  | m :: l, v :: vs, q => ⟨rLf_but (t m) h e q.1, rLf_buts t h e q.2⟩
  | [], _ :: _, q => q.elim
  | _ :: _, [], q => q.elim
theorem rLf_data {α : Type} {Dl : Addr} {ds : α → List PyData} : ∀ {l : List α} {vs : List V}, Alls (l.map fun m => rLf K Dl (ds m)) vs H → DpAll K H vs (l.map fun m => .list (ds m))
  | [], [], _ => .nil
  | m :: l, v :: vs, q => by
    obtain ⟨a, ys, rfl, h2, h3, h4⟩ := q.1
    exact .cons (.lst (Evl.sq_of h3) h4) (rLf_data q.2)
  | [], _ :: _, q => q.elim
  | _ :: _, [], q => q.elim
theorem gd_lcF {g : TG} {vs : List Nat} (ds : α → List PyData) (h : GI Ex ti σ H ms e) (hz : ms.length ≤ 90000) (ht : ∀ m, tupOnlyAll (ds m) = true)
    (hs : ∀ m ∈ ms, ∀ x H1, Ex H H1 → (e m).on x H1 → g x (wipe σ vs) H1 fun σ2 H2 => Ex H1 H2 ∧ wipe σ2 vs = wipe σ vs ∧ GL te σ2 H2 ((ds m).map (rD K)))
    (hg : ∀ x σ0 H0 (Q Q' : L2.St → Hp → Prop), g x σ0 H0 Q → (∀ a b, Q a b → Q' a b) → g x σ0 H0 Q') :
    GD (tLc ti g tYes te vs) σ H (rD K (.list (ms.map fun m => .list (ds m)))) := fun H1 e1 Q q => h H1 e1 _ fun J H2 e2 w Dl hD => by
  refine lc_it w (fun i H' => Ex H2 H' ∧ ∃ xs, H' Dl = some (.lst xs) ∧ Alls ((ms.take i).map fun m => rLf K Dl (ds m)) xs H') ⟨Ex.nw hD, [], upd_same, by simp [Alls]⟩ (fun i H' _ q => q.1) ?_ ?_
  · rintro i x H3 H4 hi ⟨e3, xs, h1, h2⟩ ⟨e4, m, hm, hr⟩
    refine hg x _ H4 _ _ (hs m (List.mem_of_getElem? hm) x H4 (Ex.tr e1 (Ex.tr e2 (Ex.tr e3 e4))) hr) ?_
    rintro σ2 H5 ⟨e5, hw, he⟩
    refine ⟨hw, ?_⟩
    have hDn : H2 Dl = none := hD
    show te σ2 H5 _
    have hD5 := e5 _ _ (e4 _ _ h1)
    refine he H5 Ex.rfl' _ fun p ys H7 hp e7 h7 hy => ⟨xs, e7 _ _ hD5, ?_, ?_, ?_⟩
    · refine Evl.sz_lt ?_
      have a1 := h2.len
      rw [List.length_map, List.length_take] at a1
      omega
    · exact Evl.Ex.mut (Ex.tr e3 (Ex.tr e4 (Ex.tr e5 e7))) hDn
    · have hne : p ≠ Dl := fun z => by rw [z, hD5] at hp; cases hp
      have hu := ExB.upd Dl H7 (.lst (xs ++ [.ref p]))
      refine ⟨xs ++ [.ref p], upd_same, ?_⟩
      rw [List.take_succ, hm, List.map_append]
      exact Alls.snoc (rLf_buts ht (e7 _ _ hD5) hu (h2.up (Ex.tr e4 (Ex.tr e5 e7)))) (r := rLf K Dl (ds m)) ⟨p, ys, rfl, hne, hu _ _ hne h7, Alls.butT (e7 _ _ hD5) hu (ht m) hy.data⟩
  · rintro H3 ⟨e3, xs, h1, h2⟩
    rw [List.take_length] at h2
    exact q _ H3 (Ex.tr e2 e3) (.lst (Evl.sq_of h1) (rLf_data h2))
end
end Mk
namespace Mk
open PySem PySem.Spec PyProof.Rows L2
/-- tuple(..) of a list or a tuple -/
def rTupS (K : PySem.W.Frag) : List V → Hp → VK → Prop := fun xs H Q => ∃ p ys, xs = [.ref p] ∧ ((SqL K H p ys ∧ ∀ l, H l = none → Q (.ref l) (upd H l (.tup ys))) ∨ (SqT K H p ys ∧ Q (.ref p) H))
theorem hu65_of {A : Around} {k : Nat} (hr : Room k A) : A.units + 65 < cLine := by have := hr.un; omega
theorem insB_ok {K : PySem.W.Frag} {x : Str} (c : Cls K (He.ga K x)) (h : insB K x = true) : C8.InsC K (He.ga K x) := by
  unfold insB at h
  obtain ⟨h1, h⟩ := He.ba h
  obtain ⟨h2, h⟩ := He.ba h
  obtain ⟨h3, h⟩ := He.ba h
  obtain ⟨h4, h5⟩ := He.ba h
  exact ⟨c, of_decide_eq_true h1, of_decide_eq_true h2, of_decide_eq_true h3, of_decide_eq_true h4, of_decide_eq_true h5⟩
section
variable {K : PySem.W.Frag} {mg : Str → Option Value}
theorem Txt.ex (T : Txt K mg) : He.tupB K "LOOKING" lookD = true ∧ He.tupB K "WAY_WORDS" waysD = true ∧ insB K "Kind" = true ∧ insB K "Table" = true ∧ insB K "Web" = true ∧ eqNeB K (He.ga K "Web") (He.ma K (He.ga K "Web") "__eq__") = true ∧ supB K = true := by
  have h := T.more
  unfold exB at h
  obtain ⟨h1, h⟩ := He.ba h
  obtain ⟨h2, h⟩ := He.ba h
  obtain ⟨h3, h⟩ := He.ba h
  obtain ⟨h4, h⟩ := He.ba h
  obtain ⟨h5, h⟩ := He.ba h
  obtain ⟨h6, h7⟩ := He.ba h
  exact ⟨h1, h2, h3, h4, h5, h6, h7⟩
theorem Txt.ins_Kind (T : Txt K mg) : C8.InsC K (He.ga K "Kind") := insB_ok T.cl_Kind T.ex.2.2.1
theorem Txt.ins_Table (T : Txt K mg) : C8.InsC K (He.ga K "Table") := insB_ok T.cl_Table T.ex.2.2.2.1
theorem Txt.ins_Web (T : Txt K mg) : C8.InsC K (He.ga K "Web") := insB_ok T.cl_Web T.ex.2.2.2.2.1
theorem Txt.eqne (T : Txt K mg) : EqNe K (He.ga K "Web") (He.ma K (He.ga K "Web") "__eq__") := eqNeB_ok T.ex.2.2.2.2.2.1
end
end Mk
namespace Mk
open PySem PySem.Spec PyProof.Rows L2
section
variable {P : Program} {w : World} {K : PySem.W.Frag} {mg : Str → Option Value} {base : Heap}
theorem cal_of {x : Str} {st : Stmt} {f : Addr} {N ps : List Str} {k : Nat} {sp : Sp} (hg : mg x = some (.ref f)) (F : ∃ fd, FunD K x x (defArgs st) (defBody st) (defScope st) [] [] f fd)
    (hb : ∀ (kV doc pm : Value) (an : Option Addr) (cdv ct : Value) (us : List Value), us.length = ps.length → bindArgs (PySem.W.fnOf x x (defArgs st) (defBody st) (defScope st) .none kV doc pm an cdv ct) ⟨us, []⟩ = pure (ps.zip us))
    (S : FnScope N ps (defScope st)) (len : ∀ vs H Q E, sp vs H Q E → vs.length = ps.length)
    (hbody : ∀ (cdv : Value) (A : Around) (outer : List Env) (s : Shared) (H : Hp) (vs : List V) (Q : VK) (E : XK), Room k (A.deeper (envOfC x (defScope st) s.heap.objs.size f cdv)) → sp vs H Q E →
      ∃ t, PSs (cxOf CX0 P w K mg base N x (defScope st) f cdv A outer s H E).nox (defBody st) t ∧ t { nx := fun _ H' => Q .non H', rt := Q } (start N vs) H) : Cal P w K mg base x (k + 1) ps [] sp := by
  obtain ⟨fd, F⟩ := F
  exact ⟨f, fd, [], hg, F.kp, .nil, F.bindsN hb, F.ok S len fun cdv A outer s H vs Q E hr hsp => let ⟨t, h, q⟩ := hbody cdv A outer s H vs Q E hr hsp; ⟨t, h.nox, q⟩⟩
/-- one default at the end -/
theorem cal_of1 {x : Str} {st : Stmt} {f : Addr} {N ps : List Str} {k n : Nat} {sp : Sp} {u : V} (hg : mg x = some (.ref f)) (F : ∃ fd, FunD K x x (defArgs st) (defBody st) (defScope st) [u] [] f fd) (hn : n + 1 = ps.length)
    (hb : ∀ (T : Addr) (kV doc pm : Value) (an : Option Addr) (cdv ct : Value) (us its : List Value), us.length = n → its.length = [u].length →
      ∃ k, bindArgs (PySem.W.fnOf x x (defArgs st) (defBody st) (defScope st) (.ref T) kV doc pm an cdv ct) ⟨us, []⟩ = seqItems? (.ref T) >>= k ∧ k (some its.toArray) = pure (ps.zip (us ++ its.drop 0)))
    (S : FnScope N ps (defScope st)) (len : ∀ vs H Q E, sp vs H Q E → vs.length = ps.length)
    (hbody : ∀ (cdv : Value) (A : Around) (outer : List Env) (s : Shared) (H : Hp) (vs : List V) (Q : VK) (E : XK), Room k (A.deeper (envOfC x (defScope st) s.heap.objs.size f cdv)) → sp vs H Q E →
      ∃ t, PSs (cxOf CX0 P w K mg base N x (defScope st) f cdv A outer s H E).nox (defBody st) t ∧ t { nx := fun _ H' => Q .non H', rt := Q } (start N vs) H) : Cal P w K mg base x (k + 1) ps [u] sp := by
  obtain ⟨fd, F⟩ := F
  obtain ⟨ds, h1, h2⟩ := F.binds1 n 0 (by simp) (by simpa using hn) hb
  exact ⟨f, fd, ds, hg, F.kp, h1, h2, F.ok S len fun cdv A outer s H vs Q E hr hsp => let ⟨t, h, q⟩ := hbody cdv A outer s H vs Q E hr hsp; ⟨t, h.nox, q⟩⟩
theorem meth_of {m qual : Str} {st : Stmt} {C f : Addr} {N ps : List Str} {k : Nat} {sp : Sp} (c : Cls K C) (hm : Meth K C m f) (F : ∃ fd, FunD K m qual (defArgs st) (defBody st) (defScope st) [] [] f fd)
    (hb : ∀ (kV doc pm : Value) (an : Option Addr) (cdv ct : Value) (us : List Value), us.length = ps.length → bindArgs (PySem.W.fnOf m qual (defArgs st) (defBody st) (defScope st) .none kV doc pm an cdv ct) ⟨us, []⟩ = pure (ps.zip us))
    (S : FnScope N ps (defScope st)) (len : ∀ vs H Q E, sp vs H Q E → vs.length = ps.length)
    (hbody : ∀ (cdv : Value) (A : Around) (outer : List Env) (s : Shared) (H : Hp) (vs : List V) (Q : VK) (E : XK), Room k (A.deeper (envOfC qual (defScope st) s.heap.objs.size f cdv)) → sp vs H Q E →
      ∃ t, PSs (cxOf CX0 P w K mg base N qual (defScope st) f cdv A outer s H E).nox (defBody st) t ∧ t { nx := fun _ H' => Q .non H', rt := Q } (start N vs) H) : CalM P w K mg base C m (k + 1) ps sp := by
  obtain ⟨fd, F⟩ := F
  exact ⟨f, fd, c, hm, F.bindsN hb, F.ok S len fun cdv A outer s H vs Q E hr hsp => let ⟨t, h, q⟩ := hbody cdv A outer s H vs Q E hr hsp; ⟨t, h.nox, q⟩⟩
theorem init_of {x m qual : Str} {st : Stmt} {C f : Addr} {N ps : List Str} {k : Nat} {sp : Sp} (hg : mg x = some (.ref C)) (hm : L2.Mk K C f) (F : ∃ fd, FunD K m qual (defArgs st) (defBody st) (defScope st) [] [] f fd)
    (hb : ∀ (kV doc pm : Value) (an : Option Addr) (cdv ct : Value) (us : List Value), us.length = ps.length → bindArgs (PySem.W.fnOf m qual (defArgs st) (defBody st) (defScope st) .none kV doc pm an cdv ct) ⟨us, []⟩ = pure (ps.zip us))
    (S : FnScope N ps (defScope st)) (len : ∀ vs H Q E, sp vs H Q E → vs.length = ps.length)
    (hbody : ∀ (cdv : Value) (A : Around) (outer : List Env) (s : Shared) (H : Hp) (vs : List V) (Q : VK) (E : XK), Room k (A.deeper (envOfC qual (defScope st) s.heap.objs.size f cdv)) → sp vs H Q E →
      ∃ t, PSs (cxOf CX0 P w K mg base N qual (defScope st) f cdv A outer s H E).nox (defBody st) t ∧ t { nx := fun _ H' => Q .non H', rt := Q } (start N vs) H) : CalI P w K mg base x C (k + 1) ps sp := by
  obtain ⟨fd, F⟩ := F
  exact ⟨f, fd, hg, hm, F.bindsN hb, F.ok S len fun cdv A outer s H vs Q E hr hsp => let ⟨t, h, q⟩ := hbody cdv A outer s H vs Q E hr hsp; ⟨t, h.nox, q⟩⟩
end
section
variable {r0 r1 r2 r3 r4 r5 : Rel} {vs : List V} {H : Hp}
theorem alls1 (h : Alls [r0] vs H) : ∃ v0, vs = [v0] ∧ r0.on v0 H := by
  match vs, h with
  | [v0], h => exact ⟨v0, rfl, h.1⟩
theorem alls2 (h : Alls [r0, r1] vs H) : ∃ v0 v1, vs = [v0, v1] ∧ r0.on v0 H ∧ r1.on v1 H := by
  match vs, h with
  | [v0, v1], h => exact ⟨v0, v1, rfl, h.1, h.2.1⟩
theorem alls3 (h : Alls [r0, r1, r2] vs H) : ∃ v0 v1 v2, vs = [v0, v1, v2] ∧ r0.on v0 H ∧ r1.on v1 H ∧ r2.on v2 H := by
  match vs, h with
  | [v0, v1, v2], h => exact ⟨v0, v1, v2, rfl, h.1, h.2.1, h.2.2.1⟩
theorem alls4 (h : Alls [r0, r1, r2, r3] vs H) : ∃ v0 v1 v2 v3, vs = [v0, v1, v2, v3] ∧ r0.on v0 H ∧ r1.on v1 H ∧ r2.on v2 H ∧ r3.on v3 H := by
  match vs, h with
  | [v0, v1, v2, v3], h => exact ⟨v0, v1, v2, v3, rfl, h.1, h.2.1, h.2.2.1, h.2.2.2.1⟩
theorem alls5 (h : Alls [r0, r1, r2, r3, r4] vs H) : ∃ v0 v1 v2 v3 v4, vs = [v0, v1, v2, v3, v4] ∧ r0.on v0 H ∧ r1.on v1 H ∧ r2.on v2 H ∧ r3.on v3 H ∧ r4.on v4 H := by
  match vs, h with
  | [v0, v1, v2, v3, v4], h => exact ⟨v0, v1, v2, v3, v4, rfl, h.1, h.2.1, h.2.2.1, h.2.2.2.1, h.2.2.2.2.1⟩
end
section
variable {K : PySem.W.Frag} {σ : L2.St} {H : Hp} {ta : TE} {tt : TA} {r : Rel} {rs : List Rel} {v : V}
theorem ev_isNo (h : Evl.Ev ta σ H v) (hv : decide (v = V.non) = false := by rfl) : Evl.Ev (tIsN ta) σ H (.bl false) := fun H1 e Q q => h H1 e _ fun H2 e2 => by
  show Q (.bl (decide (v = .non))) H2
  rw [hv]
  exact q H2 e2
theorem ev_isYes (h : Evl.Ev ta σ H .non) : Evl.Ev (tIsN ta) σ H (.bl true) := fun H1 e Q q => h H1 e _ fun H2 e2 => q H2 e2
theorem ev_call {rel : List Rel → Rel → Prop} (h : GA tt σ H rs) (k : rel rs (rV v)) : Evl.Ev (tCall (SpR rel) [] E0 tt) σ H v := ev_gd (gd_call h k)
theorem ev_call1 {rel : List Rel → Rel → Prop} {u : V} (h : GA tt σ H rs) (k : rel (rs ++ [rV u]) (rV v)) : Evl.Ev (tCall (SpR rel) [u] E0 tt) σ H v := ev_gd (gd_call1 h k)
/-- isinstance(x, int), of an int / of data -/
theorem ev_isiC {C : Addr} {F : List (Str × Rel)} (h : GD ta σ H (rIns C F)) : Evl.Ev (tCB (fun xs H Q => ∃ a dx fs, xs = [.ref a, .ref C] ∧ H a = some (.ins C dx fs) ∧ Q (.bl true) H) (tCons ta (tCons (tC (.ref C)) tNil))) σ H (.bl true) := fun H1 e Q q =>
  h H1 e _ fun x H2 e2 ⟨a, dx, fs, h1, h2, h3⟩ => ⟨a, dx, fs, by rw [h1], h2, q H2 e2⟩
end
end Mk
namespace Mk
open PySem PySem.Spec PyProof.Rows L2
section
variable {K : PySem.W.Frag} {σ : L2.St} {H : Hp} {ta : TE} {tt : TA} {r : Rel} {rs : List Rel} {v : V}
theorem ty_l {a : Addr} {xs : List V} (h : SqL K H a xs) : TyX K H (.ref a) (.type "list") := by
  rcases h with (h | ⟨o, h⟩) | ⟨o, its, n, h1, h2, _⟩
  · exact .base (.lst h)
  · exact .base (.frz h)
  · exact .kList h1 h2
theorem ty_t {a : Addr} {xs : List V} (h : SqT K H a xs) : TyX K H (.ref a) (.type "tuple") := by
  rcases h with (h | ⟨o, h⟩) | ⟨o, its, n, h1, h2, _⟩
  · exact .base (.tup h)
  · exact .fTuple h
  · exact .kTuple h1 h2
theorem ty_d : ∀ {d : PyData} {v : V}, Dp K H v d → TyX K H v (.type (match d with
  | .none => "NoneType"
  | .bool _ => "bool"
  | .int _ => "int"
  | .str _ => "str"
  | .list _ => "list"
  | .tuple _ => "tuple"
  | .dict _ => "dict"))
  | .none, _, h => by cases h; exact .base .non
  | .bool b, _, h => by cases h; exact .base (.bl b)
  | .int _, _, h => by cases h; exact .base (.int _)
  | .str _, _, h => by cases h; exact .base (.str _)
  | .list _, _, h => by obtain ⟨a, xs, rfl, h1, _⟩ := dp_lst h; exact ty_l h1
  | .tuple _, _, h => by obtain ⟨a, xs, rfl, h1, _⟩ := dp_tup h; exact ty_t h1
  | .dict _, _, h => by cases h
def tyN : PyData → String
  | .none => "NoneType"
  | .bool _ => "bool"
  | .int _ => "int"
  | .str _ => "str"
  | .list _ => "list"
  | .tuple _ => "tuple"
  | .dict _ => "dict"
theorem ty_d' {d : PyData} {v : V} (h : Dp K H v d) : TyX K H v (.type (tyN d)) := by
  have := ty_d h
  cases d <;> exact this
theorem ev_isi {d : PyData} {n : String} {b : Bool} (h : GD ta σ H (rD K d)) (e : PySem.W.kitOne K (.type (tyN d)) (.type n) = some b) : Evl.Ev (tCB (rIsi K) (tCons ta (tCons (tC (.ty n)) tNil))) σ H (.bl b) := fun H1 e1 Q q =>
  h H1 e1 _ fun x H2 e2 hx => ⟨x, .ty n, _, .type n, b, rfl, .ty n, ty_d' hx, e, q H2 e2⟩
/-- isinstance(x, (list, tuple)) -/
theorem ev_isiT {d : PyData} {b : Bool} (h : GD ta σ H (rD K d)) (e : PySem.W.kitAny K (.type (tyN d)) [.type "list", .type "tuple"] = some b) :
    Evl.Ev (tCB (rIsiT K) (tCons ta (tCons (tTup (tCons (tC (.ty "list")) (tCons (tC (.ty "tuple")) tNil))) tNil))) σ H (.bl b) := fun H1 e1 Q q =>
  h H1 e1 _ fun x H2 e2 hx => ⟨by show 2 ≤ sizeLine; decide, fun p hp => ⟨x, p, _, _, _, b, rfl, upd_same, .cons (.ty "list") (.cons (.ty "tuple") .nil), ty_d' (dp_ex (Ex.nw hp) _ _ hx), e, q _ (Ex.tr e2 (Ex.nw hp))⟩⟩
theorem ki_int_int : PySem.W.kitOne K (.type "int") (.type "int") = some true := rfl
theorem ki_int_bool : PySem.W.kitOne K (.type "int") (.type "bool") = some false := rfl
theorem ki_tup_int : PySem.W.kitOne K (.type "tuple") (.type "int") = some false := rfl
theorem ki_str_str : PySem.W.kitOne K (.type "str") (.type "str") = some true := rfl
theorem kia_l : PySem.W.kitAny K (.type "list") [.type "list", .type "tuple"] = some true := rfl
theorem kia_t : PySem.W.kitAny K (.type "tuple") [.type "list", .type "tuple"] = some true := rfl
theorem kia_i : PySem.W.kitAny K (.type "int") [.type "list", .type "tuple"] = some false := rfl
theorem kia_s {d : PyData} {ds : List PyData} (s : SeqD d ds) : PySem.W.kitAny K (.type (tyN d)) [.type "list", .type "tuple"] = some true := by
  rcases s with rfl | rfl
  · exact kia_l
  · exact kia_t
end
/-! ### comprehensions, each read at one item -/
section
variable {K : PySem.W.Frag} {σ : L2.St} {H : Hp} {ta te tb : TE} {t : TT} {ti : TI} {vs : List Nat} {α : Type} {ms : List α} {e : α → Rel}
theorem et_yes : Evl.EvT tYes σ H true := fun H1 _ Q q => q H1 Ex.rfl'
theorem filter_all (ms : List α) : ms.filter (fun _ => true) = ms := List.filter_eq_self.mpr fun _ _ => rfl
theorem gName_mono {j : Nat} : ∀ x σ0 H0 (Q Q' : L2.St → Hp → Prop), gName j x σ0 H0 Q → (∀ a b, Q a b → Q' a b) → gName j x σ0 H0 Q' := fun _ _ _ _ _ h k => k _ _ h
theorem gNil_mono : ∀ x σ0 H0 (Q Q' : L2.St → Hp → Prop), gNil x σ0 H0 Q → (∀ a b, Q a b → Q' a b) → gNil x σ0 H0 Q' := fun _ _ _ _ _ h k => ⟨h.1, k _ _ h.2⟩
theorem gTup2_mono {i j : Nat} : ∀ x σ0 H0 (Q Q' : L2.St → Hp → Prop), gTup K 2 (gCons (gName i) (gCons (gName j) gNil)) x σ0 H0 Q → (∀ a b, Q a b → Q' a b) → gTup K 2 (gCons (gName i) (gCons (gName j) gNil)) x σ0 H0 Q' :=
  fun _ _ _ _ _ ⟨a, xs, h1, h2, h3, v, r, h4, v2, r2, h5, h6⟩ k => ⟨a, xs, h1, h2, h3, v, r, h4, v2, r2, h5, h6.1, k _ _ h6.2⟩
theorem gtup2 {i j : Nat} {x : V} {d1 d2 : PyData} {Q : L2.St → Hp → Prop} (h : Dp K H x (.tuple [d1, d2])) (k : ∀ x1 x2, Dp K H x1 d1 → Dp K H x2 d2 → Q ((σ.set i (some x1)).set j (some x2)) H) : gTup K 2 (gCons (gName i) (gCons (gName j) gNil)) x σ H Q := by
  obtain ⟨a, xs, rfl, h1, h2⟩ := dp_tup h
  cases h2 with
  | cons q1 h2 =>
    cases h2 with
    | cons q2 h2 =>
      cases h2
      exact ⟨a, _, rfl, h1, rfl, _, _, rfl, _, _, rfl, rfl, k _ _ q1 q2⟩
theorem gd_lcN {j : Nat} (p : α → Bool) (f : α → Rel) (h : GI Ex ti σ H ms e) (hz : ms.length ≤ 90000) (hb : ∀ m, (f m).But) (hw : ∀ x, wipe ((wipe σ vs).set j (some x)) vs = wipe σ vs)
    (ht : ∀ m ∈ ms, ∀ x H1, Ex H H1 → (e m).on x H1 → Evl.EvT t ((wipe σ vs).set j (some x)) H1 (p m)) (he : ∀ m ∈ ms, ∀ x H1, Ex H H1 → (e m).on x H1 → p m = true → GD te ((wipe σ vs).set j (some x)) H1 (f m)) :
    GD (tLc ti (gName j) t te vs) σ H (rLst K ((ms.filter p).map f)) :=
  gd_lcR p f h hz (fun m hm x H1 e1 hx => ⟨Ex.rfl', hw x, ht m hm x H1 e1 hx, he m hm x H1 e1 hx⟩) hb gName_mono
theorem gd_lcM {j : Nat} (f : α → Rel) (h : GI Ex ti σ H ms e) (hz : ms.length ≤ 90000) (hb : ∀ m, (f m).But) (hw : ∀ x, wipe ((wipe σ vs).set j (some x)) vs = wipe σ vs)
    (he : ∀ m ∈ ms, ∀ x H1, Ex H H1 → (e m).on x H1 → GD te ((wipe σ vs).set j (some x)) H1 (f m)) : GD (tLc ti (gName j) tYes te vs) σ H (rLst K (ms.map f)) := by
  have := gd_lcN (K := K) (t := tYes) (p := fun _ => true) f h hz hb hw (fun _ _ _ _ _ _ => et_yes) fun m hm x H1 e1 hx _ => he m hm x H1 e1 hx
  rwa [filter_all] at this
/-- the target a pair -/
theorem gd_lcP {i j : Nat} {d1 d2 : α → PyData} (p : α → Bool) (f : α → Rel) (h : GI Ex ti σ H ms (fun m => rD K (.tuple [d1 m, d2 m]))) (hz : ms.length ≤ 90000) (hb : ∀ m, (f m).But) (hw : ∀ x y, wipe (((wipe σ vs).set i (some x)).set j (some y)) vs = wipe σ vs)
    (ht : ∀ m ∈ ms, ∀ x y H1, Ex H H1 → Dp K H1 x (d1 m) → Dp K H1 y (d2 m) → Evl.EvT t (((wipe σ vs).set i (some x)).set j (some y)) H1 (p m))
    (he : ∀ m ∈ ms, ∀ x y H1, Ex H H1 → Dp K H1 x (d1 m) → Dp K H1 y (d2 m) → p m = true → GD te (((wipe σ vs).set i (some x)).set j (some y)) H1 (f m)) :
    GD (tLc ti (gTup K 2 (gCons (gName i) (gCons (gName j) gNil))) t te vs) σ H (rLst K ((ms.filter p).map f)) :=
  gd_lcR p f h hz (fun m hm x H1 e1 hx => gtup2 hx fun x1 x2 q1 q2 => ⟨Ex.rfl', hw x1 x2, ht m hm x1 x2 H1 e1 q1 q2, he m hm x1 x2 H1 e1 q1 q2⟩) hb gTup2_mono
theorem gd_lcPM {i j : Nat} {d1 d2 : α → PyData} (f : α → Rel) (h : GI Ex ti σ H ms (fun m => rD K (.tuple [d1 m, d2 m]))) (hz : ms.length ≤ 90000) (hb : ∀ m, (f m).But) (hw : ∀ x y, wipe (((wipe σ vs).set i (some x)).set j (some y)) vs = wipe σ vs)
    (he : ∀ m ∈ ms, ∀ x y H1, Ex H H1 → Dp K H1 x (d1 m) → Dp K H1 y (d2 m) → GD te (((wipe σ vs).set i (some x)).set j (some y)) H1 (f m)) :
    GD (tLc ti (gTup K 2 (gCons (gName i) (gCons (gName j) gNil))) tYes te vs) σ H (rLst K (ms.map f)) := by
  have := gd_lcP (K := K) (t := tYes) (p := fun _ => true) f h hz hb hw (fun _ _ _ _ _ _ _ _ => et_yes) fun m hm x y H1 e1 hx hy _ => he m hm x y H1 e1 hx hy
  rwa [filter_all] at this
theorem gl_lcPM {i j : Nat} {d1 d2 : α → PyData} (f : α → Rel) (h : GI Ex ti σ H ms (fun m => rD K (.tuple [d1 m, d2 m]))) (hz : ms.length ≤ 90000) (hb : ∀ m, (f m).But) (hw : ∀ x y, wipe (((wipe σ vs).set i (some x)).set j (some y)) vs = wipe σ vs)
    (he : ∀ m ∈ ms, ∀ x y H1, Ex H H1 → Dp K H1 x (d1 m) → Dp K H1 y (d2 m) → GD te (((wipe σ vs).set i (some x)).set j (some y)) H1 (f m)) :
    GL (tLc ti (gTup K 2 (gCons (gName i) (gCons (gName j) gNil))) tYes te vs) σ H (ms.map f) := by
  have := gl_lcR (t := tYes) (p := fun _ => true) f h hz (fun m hm x H1 e1 hx => gtup2 hx fun x1 x2 q1 q2 => ⟨Ex.rfl', hw x1 x2, et_yes, fun _ => he m hm x1 x2 H1 e1 q1 q2⟩) hb gTup2_mono
  rwa [filter_all] at this
theorem gd_lcFN {j : Nat} (ds : α → List PyData) (h : GI Ex ti σ H ms e) (hz : ms.length ≤ 90000) (ht : ∀ m, tupOnlyAll (ds m) = true) (hw : ∀ x, wipe ((wipe σ vs).set j (some x)) vs = wipe σ vs)
    (he : ∀ m ∈ ms, ∀ x H1, Ex H H1 → (e m).on x H1 → GL te ((wipe σ vs).set j (some x)) H1 ((ds m).map (rD K))) : GD (tLc ti (gName j) tYes te vs) σ H (rD K (.list (ms.map fun m => .list (ds m)))) :=
  gd_lcF ds h hz ht (fun m hm x H1 e1 hx => ⟨Ex.rfl', hw x, he m hm x H1 e1 hx⟩) gName_mono
theorem rLst_map {f : α → PyData} {v : V} (h : (rLst K (ms.map fun m => rD K (f m))).on v H) : (rD K (.list (ms.map f))).on v H := rLst_data (by rw [List.map_map]; exact h)
theorem gd_lst' {f : α → PyData} (h : GD te σ H (rLst K (ms.map fun m => rD K (f m)))) : GD te σ H (rD K (.list (ms.map f))) := gd_to h fun _ _ _ q => rLst_map q
theorem alls_val {f : α → V} : ∀ {ms : List α} {xs : List V}, Alls (ms.map fun m => rV (f m)) xs H → xs = ms.map f
  | [], [], _ => rfl
  | m :: ms, x :: xs, h => by rw [List.map_cons, ← show x = f m from h.1, ← alls_val h.2]
  | [], _ :: _, h => h.elim
  | _ :: _, [], h => h.elim
theorem ev_sum {f : α → Int} (h : GD te σ H (rLst K (ms.map fun m => rV (.int (f m))))) : Evl.Ev (tCB (rSum K) (tCons te tNil)) σ H (.int (ms.map f).sum) := fun H1 e1 Q q =>
  h H1 e1 _ fun x H2 e2 ⟨a, xs, h1, h2, h3⟩ => by
    have e := alls_val h3
    subst h1 e
    exact ⟨a, ms.map f, rfl, by rw [List.map_map]; exact h2, q H2 e2⟩
theorem ev_all {f : α → Bool} (h : GD te σ H (rLst K (ms.map fun m => rV (.bl (f m))))) : Evl.Ev (tCB (rAll K) (tCons te tNil)) σ H (.bl (ms.all f)) := fun H1 e1 Q q =>
  h H1 e1 _ fun x H2 e2 ⟨a, xs, h1, h2, h3⟩ => by
    have e := alls_val h3
    subst h1 e
    refine ⟨a, ms.map f, rfl, by rw [List.map_map]; exact h2, ?_⟩
    rw [List.all_map]
    exact q H2 e2
theorem ev_all1 (h : GD te σ H (rLst K (ms.map fun _ => rV (.bl true)))) : Evl.Ev (tCB (rAll K) (tCons te tNil)) σ H (.bl true) := by
  have := ev_all (f := fun _ => true) h
  rwa [show (ms.all fun _ => true) = true from List.all_eq_true.mpr fun _ _ => rfl] at this
theorem sIx_nat {n d j : Nat} : HT.sIx n d (some ((j : Nat) : Int)) = min j n := by
  show (if ((j : Nat) : Int) < 0 then (((j : Nat) : Int) + (n : Int)).toNat else min ((j : Nat) : Int).toNat n) = _
  rw [if_neg (by omega), Int.toNat_natCast]
theorem cutV_take {xs : List V} {j : Nat} (h : j ≤ xs.length) : cutV xs none (some ((j : Nat) : Int)) = xs.take j := by
  unfold cutV
  have e : HT.sIx xs.length xs.length (some ((j : Nat) : Int)) = j := by
    rw [sIx_nat]
    omega
  rw [e]
  rfl
theorem dpa_take : ∀ {ds : List PyData} {vs : List V} (j : Nat), DpAll K H vs ds → DpAll K H (vs.take j) (ds.take j)
  | [], _, j, h => by cases h; simp; exact .nil
  | d :: ds, _, 0, h => by simp; exact .nil
  | d :: ds, _, j + 1, h => by
    cases h with
    | cons h1 h2 => exact .cons h1 (dpa_take j h2)
theorem gd_slT {ds : List PyData} {j : Nat} (h : GD ta σ H (rD K (.tuple ds))) (hi : Evl.Ev tb σ H (.int ((j : Nat) : Int))) (hj : j ≤ ds.length) : GD (tSl (rSlA K) ta tNoPart (tPart tb)) σ H (rD K (.tuple (ds.take j))) := fun H1 e1 Q q =>
  h H1 e1 _ fun x H2 e2 hx => hi H2 (Ex.tr e1 e2) _ fun H3 e3 => by
    obtain ⟨a, xs, rfl, h1, h2⟩ := dp_tup (dp_ex e3 _ _ hx)
    have hl := dpa_len h2
    refine ⟨_, rfl, a, xs, rfl, h1, fun hw => ?_, fun _ p hp => ?_⟩
    · have e : j = xs.length := by
        have := hw.2
        rw [sIx_nat] at this
        omega
      have e2' : ds.take j = ds := by rw [List.take_of_length_le (by omega)]
      rw [e2'] at q
      exact q _ H3 (Ex.tr e2 e3) (.tup h1 h2)
    · rw [cutV_take (by omega)]
      exact q _ _ (Ex.tr (Ex.tr e2 e3) (Ex.nw hp)) (.tup (Evl.st_of upd_same) (dpa_ex (Ex.nw hp) _ _ (dpa_take j h2)))
theorem gd_slL {ds : List PyData} {j : Nat} (h : GD ta σ H (rD K (.list ds))) (hi : Evl.Ev tb σ H (.int ((j : Nat) : Int))) : GD (tSl (rSlL K) ta tNoPart (tPart tb)) σ H (rD K (.list (ds.take j))) := fun H1 e1 Q q =>
  h H1 e1 _ fun x H2 e2 hx => hi H2 (Ex.tr e1 e2) _ fun H3 e3 => by
    obtain ⟨a, xs, rfl, h1, h2⟩ := dp_lst (dp_ex e3 _ _ hx)
    have hl := dpa_len h2
    refine ⟨_, rfl, a, xs, rfl, h1, fun p hp => ?_⟩
    have ec : cutV xs none (some ((j : Nat) : Int)) = xs.take j := by
      by_cases hj : j ≤ xs.length
      · exact cutV_take hj
      · unfold cutV
        have e : HT.sIx xs.length xs.length (some ((j : Nat) : Int)) = xs.length := by
          rw [sIx_nat]
          omega
        rw [e]
        show List.take (xs.length - 0) (List.drop 0 xs) = _
        rw [List.drop_zero, List.take_of_length_le (by omega), List.take_of_length_le (by omega)]
    rw [ec]
    exact q _ _ (Ex.tr (Ex.tr e2 e3) (Ex.nw hp)) (.lst (Evl.sq_of upd_same) (dpa_ex (Ex.nw hp) _ _ (dpa_take j h2)))
end
end Mk
namespace Mk
open PySem PySem.Spec PyProof.Rows L2

/-! ### is_integer -/
abbrev N_is_integer : List Str := ["value"]
theorem sc_is_integer : FnScope N_is_integer ["value"] (defScope s_is_integer) := ⟨rfl, rfl, rfl, by decide +kernel, rfl, by decide +kernel, by decide +kernel⟩
inductive rel_is_integer (K : PySem.W.Frag) : List Rel → Rel → Prop
  | int (i : Int) : rel_is_integer K [rD K (.int i)] (rV (.bl true))
  | tup (ds : List PyData) : rel_is_integer K [rD K (.tuple ds)] (rV (.bl false))
theorem ok_is_integer {P : Program} {w : World} {K : PySem.W.Frag} {mg : Str → Option Value} {base : Heap} (T : Txt K mg) : Cal P w K mg base "is_integer" 1 ["value"] [] (SpR (rel_is_integer K)) := by
  refine cal_of (st := s_is_integer) T.g_is_integer (T.d.def_ 0 rfl) (fun _ _ _ _ _ _ us hl => match us, hl with | [_], _ => rfl) sc_is_integer (fun vs H Q E hsp => by obtain ⟨rs, r, h, ha, _⟩ := hsp; rw [ha.len]; cases h <;> rfl) fun cdv A outer s H vs Q E hr hsp => ?_
  have hu := hr.units
  have hu0 := hu_of hr
  have hu65 := hu65_of hr
  refine ⟨_, (pss_one (ps_ret (pe_and (pe_callB (id := "isinstance") call_isi (by rfl) T.f_isinstance (by decide +kernel) (pa_cons (pv 0) (pa_cons (pe_bltn (v := .ty "int") rfl T.f_int (by decide +kernel) rfl) pa_nil))) (pe_one (pe_not (pe_callB (id := "isinstance") call_isi (by rfl) T.f_isinstance (by decide +kernel) (pa_cons (pv 0) (pa_cons (pe_bltn (v := .ty "bool") rfl T.f_bool (by decide +kernel) rfl) pa_nil)))))))), ?_⟩

  obtain ⟨rs, r, h, ha, hQ⟩ := hsp
  cases h with
  | int i =>
    obtain ⟨v0, rfl, h0⟩ := alls1 ha
    exact Evl.s_ret (Evl.ev_andV (ev_isi (gd_v rfl h0) ki_int_int) (fun _ => Evl.ev_notV (ev_isi (gd_v rfl h0) ki_int_bool))) (fun H1 e => hQ _ _ e rfl)
  | tup ds =>
    obtain ⟨v0, rfl, h0⟩ := alls1 ha
    exact Evl.s_ret (Evl.ev_andV (a := false) (b := false) (ev_isi (gd_v rfl h0) ki_tup_int) (fun h => by cases h)) (fun H1 e => hQ _ _ e rfl)
/-! ### is_within -/
abbrev N_is_within : List Str := ["value", "least", "most"]
theorem sc_is_within : FnScope N_is_within ["value", "least", "most"] (defScope s_is_within) := ⟨rfl, rfl, rfl, by decide +kernel, rfl, by decide +kernel, by decide +kernel⟩
inductive rel_is_within (K : PySem.W.Frag) : List Rel → Rel → Prop
  | mk (v lo hi : Int) : rel_is_within K [rD K (.int v), rD K (.int lo), rD K (.int hi)] (rV (.bl (decide (lo ≤ v) && decide (v ≤ hi))))
theorem ok_is_within {P : Program} {w : World} {K : PySem.W.Frag} {mg : Str → Option Value} {base : Heap} (T : Txt K mg) : Cal P w K mg base "is_within" 2 ["value", "least", "most"] [] (SpR (rel_is_within K)) := by
  refine cal_of (st := s_is_within) T.g_is_within (T.d.def_ 1 rfl) (fun _ _ _ _ _ _ us hl => match us, hl with | [_, _, _], _ => rfl) sc_is_within (fun vs H Q E hsp => by obtain ⟨rs, r, h, ha, _⟩ := hsp; rw [ha.len]; cases h <;> rfl) fun cdv A outer s H vs Q E hr hsp => ?_
  have hu := hr.units
  have hu0 := hu_of hr
  have hu65 := hu65_of hr
  refine ⟨_, (pss_cons (ps_if (pt_not (pt_val (pe_cal (ok_is_integer (P := P) (w := w) (base := base) T) (hr.mono (by decide)) rfl (pa_cons (pv 0) pa_nil)))) (pss_one (ps_ret pe_bl)) pss_nil)
      (pss_one (ps_ret (pe_and (pe_or (pe_cmp (pc_isN (pv 1)) rfl) (pe_one (pe_cmpR op_le (pv 1) (pv 0) (nomark _)))) (pe_one (pe_or (pe_cmp (pc_isN (pv 2)) rfl) (pe_one (pe_cmpR op_le (pv 0) (pv 2) (nomark _))))))))), ?_⟩

  obtain ⟨rs, r, h, ha, hQ⟩ := hsp
  cases h with
  | mk v lo hi =>
    obtain ⟨v0, v1, v2, rfl, h0, h1, h2⟩ := alls3 ha
    obtain rfl := dp_int h0
    obtain rfl := dp_int h1
    obtain rfl := dp_int h2
    refine Evl.q_when (b := false) (Evl.et_not (a := true) (Evl.et_test (ev_call (ga_1 (gd_v rfl h0)) (.int _)))) (fun h => by cases h) (fun _ H1 e1 => ?_)
    exact Evl.s_ret (Evl.ev_andV (Evl.ev_orV (ev_isNo (Evl.ev_var rfl)) (fun _ => Evl.ev_op (Evl.ev_var rfl) (Evl.ev_var rfl) Evl.rv_I0)) (fun _ => Evl.ev_orV (ev_isNo (Evl.ev_var rfl)) (fun _ => Evl.ev_op (Evl.ev_var rfl) (Evl.ev_var rfl) Evl.rv_I0))) (fun H2 e2 => hQ _ _ (Ex.tr e1 e2) rfl)
/-! ### is_bit -/
abbrev N_is_bit : List Str := ["value"]
theorem sc_is_bit : FnScope N_is_bit ["value"] (defScope s_is_bit) := ⟨rfl, rfl, rfl, by decide +kernel, rfl, by decide +kernel, by decide +kernel⟩
inductive rel_is_bit (K : PySem.W.Frag) : List Rel → Rel → Prop
  | mk (v : Int) : rel_is_bit K [rD K (.int v)] (rV (.bl (decide (0 ≤ v) && decide (v ≤ 1))))
theorem ok_is_bit {P : Program} {w : World} {K : PySem.W.Frag} {mg : Str → Option Value} {base : Heap} (T : Txt K mg) : Cal P w K mg base "is_bit" 3 ["value"] [] (SpR (rel_is_bit K)) := by
  refine cal_of (st := s_is_bit) T.g_is_bit (T.d.def_ 2 rfl) (fun _ _ _ _ _ _ us hl => match us, hl with | [_], _ => rfl) sc_is_bit (fun vs H Q E hsp => by obtain ⟨rs, r, h, ha, _⟩ := hsp; rw [ha.len]; cases h <;> rfl) fun cdv A outer s H vs Q E hr hsp => ?_
  have hu := hr.units
  have hu0 := hu_of hr
  have hu65 := hu65_of hr
  refine ⟨_, (pss_one (ps_ret (pe_cal (ok_is_within (P := P) (w := w) (base := base) T) (hr.mono (by decide)) rfl (pa_cons (pv 0) (pa_cons pe_int (pa_cons pe_int pa_nil)))))), ?_⟩

  obtain ⟨rs, r, h, ha, hQ⟩ := hsp
  cases h with
  | mk v =>
    obtain ⟨v0, rfl, h0⟩ := alls1 ha
    exact Evl.s_ret (ev_call (ga_cons (gd_v rfl h0) (ga_int Evl.ev_c (ga_int Evl.ev_c ga_nil))) (.mk _ _ _)) (fun H1 e => hQ _ _ e rfl)
/-! ### is_way -/
abbrev N_is_way : List Str := ["value"]
theorem sc_is_way : FnScope N_is_way ["value"] (defScope s_is_way) := ⟨rfl, rfl, rfl, by decide +kernel, rfl, by decide +kernel, by decide +kernel⟩
inductive rel_is_way (K : PySem.W.Frag) : List Rel → Rel → Prop
  | mk (x : Str) (hx : x = "look" ∨ x = "set" ∨ x = "reset") : rel_is_way K [rD K (.str x)] (rV (.bl true))
theorem ok_is_way {P : Program} {w : World} {K : PySem.W.Frag} {mg : Str → Option Value} {base : Heap} (T : Txt K mg) : Cal P w K mg base "is_way" 1 ["value"] [] (SpR (rel_is_way K)) := by
  refine cal_of (st := s_is_way) T.g_is_way (T.d.def_ 3 rfl) (fun _ _ _ _ _ _ us hl => match us, hl with | [_], _ => rfl) sc_is_way (fun vs H Q E hsp => by obtain ⟨rs, r, h, ha, _⟩ := hsp; rw [ha.len]; cases h <;> rfl) fun cdv A outer s H vs Q E hr hsp => ?_
  have hu := hr.units
  have hu0 := hu_of hr
  have hu65 := hu65_of hr
  refine ⟨_, (pss_one (ps_ret (pe_and (pe_callB (id := "isinstance") call_isi (by rfl) T.f_isinstance (by decide +kernel) (pa_cons (pv 0) (pa_cons (pe_bltn (v := .ty "str") rfl T.f_str (by decide +kernel) rfl) pa_nil))) (pe_one (pe_cmpR op_in_seq (pv 0) (pe_gref rfl T.g_WAY_WORDS) (by rfl)))))), ?_⟩

  obtain ⟨rs, r, h, ha, hQ⟩ := hsp
  cases h with
  | mk x hx =>
    obtain ⟨v0, rfl, h0⟩ := alls1 ha
    obtain rfl := dp_str h0
    have hin : inV (.str x) (waysD.map (He.Dv.v K)) = true := by
      rcases hx with rfl | rfl | rfl <;> rfl
    refine Evl.s_ret (Evl.ev_andV (a := true) (b := true) (ev_isi (gd_v rfl h0) ki_str_str) (fun _ => Evl.ev_is (Evl.ev_op (Evl.ev_var rfl) Evl.ev_c (Evl.rv_isT (He.tupB_ok T.ex.2.1 H) rfl rfl)) (by rw [hin]))) (fun H1 e => hQ _ _ e rfl)
/-! ### exits_in -/
abbrev N_exits_in : List Str := ["word"]
theorem sc_exits_in : FnScope N_exits_in ["word"] (defScope s_exits_in) := ⟨rfl, rfl, rfl, by decide +kernel, rfl, by decide +kernel, by decide +kernel⟩
def outs (x : Str) : Nat := if x = "look" then 2 else 1
inductive rel_exits_in (K : PySem.W.Frag) : List Rel → Rel → Prop
  | mk (x : Str) (hx : x = "look" ∨ x = "set" ∨ x = "reset") : rel_exits_in K [rD K (.str x)] (rV (.int (outs x)))
theorem ok_exits_in {P : Program} {w : World} {K : PySem.W.Frag} {mg : Str → Option Value} {base : Heap} (T : Txt K mg) : Cal P w K mg base "exits_in" 1 ["word"] [] (SpR (rel_exits_in K)) := by
  refine cal_of (st := s_exits_in) T.g_exits_in (T.d.def_ 4 rfl) (fun _ _ _ _ _ _ us hl => match us, hl with | [_], _ => rfl) sc_exits_in (fun vs H Q E hsp => by obtain ⟨rs, r, h, ha, _⟩ := hsp; rw [ha.len]; cases h <;> rfl) fun cdv A outer s H vs Q E hr hsp => ?_
  have hu := hr.units
  have hu0 := hu_of hr
  have hu65 := hu65_of hr
  refine ⟨_, (pss_one (ps_ret (pe_ifExp (pt_cmpR op_in_seq (pv 0) (pe_gref rfl T.g_LOOKING) (by rfl)) pe_int pe_int))), ?_⟩

  obtain ⟨rs, r, h, ha, hQ⟩ := hsp
  cases h with
  | mk x hx =>
    obtain ⟨v0, rfl, h0⟩ := alls1 ha
    obtain rfl := dp_str h0
    refine Evl.s_ret (Evl.ev_if (b := inV (.str x) (lookD.map (He.Dv.v K))) (v := .int (outs x)) (Evl.et_B (Evl.ev_op (Evl.ev_var rfl) Evl.ev_c (Evl.rv_isT (He.tupB_ok T.ex.1 H) rfl rfl))) ?_ ?_) (fun H1 e => hQ _ _ e rfl)
    · intro h
      refine Evl.ev_is Evl.ev_c ?_
      rcases hx with rfl | rfl | rfl <;> first | rfl | cases h
    · intro h
      refine Evl.ev_is Evl.ev_c ?_
      rcases hx with rfl | rfl | rfl <;> first | rfl | cases h
/-! ### need_kind -/
abbrev N_need_kind : List Str := ["value", "part"]
theorem sc_need_kind : FnScope N_need_kind ["value", "part"] (defScope s_need_kind) := ⟨rfl, rfl, rfl, by decide +kernel, rfl, by decide +kernel, by decide +kernel⟩
inductive rel_need_kind (K : PySem.W.Frag) : List Rel → Rel → Prop
  | mk (F : List (Str × Rel)) : rel_need_kind K [rIns (He.ga K "Kind") F, rV (.str "kind")] (rV .non)
theorem ok_need_kind {P : Program} {w : World} {K : PySem.W.Frag} {mg : Str → Option Value} {base : Heap} (T : Txt K mg) : Cal P w K mg base "need_kind" 1 ["value", "part"] [.str "kind"] (SpR (rel_need_kind K)) := by
  refine cal_of1 (st := s_need_kind) (n := 1) T.g_need_kind (T.d.def_ 5 rfl) rfl (fun _ _ _ _ _ _ _ us its hl hl2 => match us, hl, its, hl2 with | [_], _, [_], _ => ⟨_, rfl, rfl⟩) sc_need_kind (fun vs H Q E hsp => by obtain ⟨rs, r, h, ha, _⟩ := hsp; rw [ha.len]; cases h <;> rfl) fun cdv A outer s H vs Q E hr hsp => ?_
  have hu := hr.units
  have hu0 := hu_of hr
  have hu65 := hu65_of hr
  refine ⟨_, (pss_one (ps_if (pt_not (pt_val (pe_callB (id := "isinstance") (C8.call_isC (T.ins_Kind)) (by rfl) T.f_isinstance (by decide +kernel) (pa_cons (pv 0) (pa_cons (pe_gref rfl T.g_Kind) pa_nil))))) (pss_one ps_never) pss_nil)), ?_⟩

  obtain ⟨rs, r, h, ha, hQ⟩ := hsp
  cases h with
  | mk F =>
    obtain ⟨v0, v1, rfl, h0, h1⟩ := alls2 ha
    exact Evl.s_when (b := false) (Evl.et_not (a := true) (Evl.et_test (ev_isiC (gd_v rfl h0)))) (fun h => by cases h) (fun _ H1 e1 => hQ _ _ e1 rfl)
/-! ### need_table -/
abbrev N_need_table : List Str := ["value", "part"]
theorem sc_need_table : FnScope N_need_table ["value", "part"] (defScope s_need_table) := ⟨rfl, rfl, rfl, by decide +kernel, rfl, by decide +kernel, by decide +kernel⟩
inductive rel_need_table (K : PySem.W.Frag) : List Rel → Rel → Prop
  | mk (F : List (Str × Rel)) : rel_need_table K [rIns (He.ga K "Table") F, rV (.str "table")] (rV .non)
theorem ok_need_table {P : Program} {w : World} {K : PySem.W.Frag} {mg : Str → Option Value} {base : Heap} (T : Txt K mg) : Cal P w K mg base "need_table" 1 ["value", "part"] [.str "table"] (SpR (rel_need_table K)) := by
  refine cal_of1 (st := s_need_table) (n := 1) T.g_need_table (T.d.def_ 9 rfl) rfl (fun _ _ _ _ _ _ _ us its hl hl2 => match us, hl, its, hl2 with | [_], _, [_], _ => ⟨_, rfl, rfl⟩) sc_need_table (fun vs H Q E hsp => by obtain ⟨rs, r, h, ha, _⟩ := hsp; rw [ha.len]; cases h <;> rfl) fun cdv A outer s H vs Q E hr hsp => ?_
  have hu := hr.units
  have hu0 := hu_of hr
  have hu65 := hu65_of hr
  refine ⟨_, (pss_one (ps_if (pt_not (pt_val (pe_callB (id := "isinstance") (C8.call_isC (T.ins_Table)) (by rfl) T.f_isinstance (by decide +kernel) (pa_cons (pv 0) (pa_cons (pe_gref rfl T.g_Table) pa_nil))))) (pss_one ps_never) pss_nil)), ?_⟩

  obtain ⟨rs, r, h, ha, hQ⟩ := hsp
  cases h with
  | mk F =>
    obtain ⟨v0, v1, rfl, h0, h1⟩ := alls2 ha
    exact Evl.s_when (b := false) (Evl.et_not (a := true) (Evl.et_test (ev_isiC (gd_v rfl h0)))) (fun h => by cases h) (fun _ H1 e1 => hQ _ _ e1 rfl)
/-! ### first_of -/
abbrev N_first_of : List Str := ["kind", "way", "word"]
theorem sc_first_of : FnScope N_first_of ["kind", "way"] (defScope s_first_of) := ⟨rfl, rfl, rfl, by decide +kernel, rfl, by decide +kernel, by decide +kernel⟩
def ways3 : List Str := ["look", "set", "reset"]
theorem ways3_mem {x : Str} (h : x ∈ ways3) : x = "look" ∨ x = "set" ∨ x = "reset" := by
  simpa [ways3] using h
def kindF (K : PySem.W.Frag) : List (Str × Rel) := [("ways", rD K (.tuple (ways3.map .str))), ("exits", rV (.int 4))]
def kindR (K : PySem.W.Frag) : Rel := rIns (He.ga K "Kind") (kindF K)
inductive rel_first_of (K : PySem.W.Frag) : List Rel → Rel → Prop
  | mk (way : Nat) (hw : way < 3) : rel_first_of K [kindR K, rD K (.int way)] (rV (.int (fst3 way)))
theorem ok_first_of {P : Program} {w : World} {K : PySem.W.Frag} {mg : Str → Option Value} {base : Heap} (T : Txt K mg) : Cal P w K mg base "first_of" 2 ["kind", "way"] [] (SpR (rel_first_of K)) := by
  refine cal_of (st := s_first_of) T.g_first_of (T.d.def_ 6 rfl) (fun _ _ _ _ _ _ us hl => match us, hl with | [_, _], _ => rfl) sc_first_of (fun vs H Q E hsp => by obtain ⟨rs, r, h, ha, _⟩ := hsp; rw [ha.len]; cases h <;> rfl) fun cdv A outer s H vs Q E hr hsp => ?_
  have hu := hr.units
  have hu0 := hu_of hr
  have hu65 := hu65_of hr
  refine ⟨_, (pss_one (ps_ret (pe_callB (id := "sum") (cr_sum rfl) (by rfl) T.f_sum (by decide +kernel) (pa_cons (pe_lc rfl sc_first_of.nd (pi_tup (pe_slice sl_tupA (pe_fld (pv 0) rfl) po_none (po_some (pv 1)))) (blkOk_by (own := [("word", 2)]) rfl) (fun _ _ _ _ _ => (pg_name (i := 2) sc_first_of.nd rfl (Or.inl rfl))) (fun _ _ _ _ _ => pts_nil) (fun _ _ _ _ _ => (pe_cal (ok_exits_in (P := P) (w := w) (base := base) T) (hr.mono (by decide)) rfl (pa_cons (pv 2) pa_nil)))) pa_nil)))), ?_⟩

  obtain ⟨rs, r, h, ha, hQ⟩ := hsp
  cases h with
  | mk way hw =>
    obtain ⟨v0, v1, rfl, h0, h1⟩ := alls2 ha
    obtain rfl := dp_int h1
    have hsl : GD (tSl (rSlA K) (tFld K (tVar 0) "ways") tNoPart (tPart (tVar 1))) (start N_first_of [v0, .int way]) H (rD K (.tuple ((ways3.take way).map .str))) := by
      have h := gd_slT (j := way) (ds := ways3.map .str) (gd_fld (gd_v (i := 0) rfl h0) T.cl_Kind T.n_Kind_ways) (Evl.ev_var rfl) (by show way ≤ 3; omega) (σ := start N_first_of [v0, .int way]) (H := H) (tb := tVar 1)
      rw [List.map_take]
      exact h
    refine Evl.s_ret (ev_sum (f := fun x => (outs x : Int)) (gd_lcM (fun x => rV (.int (outs x : Int))) (gi_tup hsl) (by simp [ways3]; omega) (fun _ => but_V) (fun _ => rfl) (fun m hm x H1 e1 hx => ?_))) (fun H1 e => hQ _ _ e ?_)
    · exact gd_call (ga_1 (gd_v rfl hx)) (.mk m (ways3_mem (List.mem_of_mem_take hm)))
    · show V.int _ = V.int _
      congr 1
      match way, hw with
      | 0, _ => rfl
      | 1, _ => rfl
      | 2, _ => rfl
end Mk
namespace Mk
open PySem PySem.Spec PyProof.Rows L2
section
variable {K : PySem.W.Frag} {σ : L2.St} {H H' : Hp} {ta tb tc te tv : TE} {x y z v : V} {r : Rel} {d : PyData} {D : Ends} {tz : TS}
/-! ### a <= b <= c -/
theorem ev_chain {r1 r2 : R2} {b : Bool} (ha : Evl.Ev ta σ H x) (hb : Evl.Ev tb σ H y) (h1 : Evl.RV r1 x y H (.bl true)) (hc : Evl.Ev tc σ H z) (h2 : Evl.RV r2 y z H (.bl b)) : Evl.Ev (tChain r1 r2 ta tb tc) σ H (.bl b) := fun H1 e Q q =>
  ha H1 e _ fun H2 e2 => hb H2 (Ex.tr e e2) _ fun H3 e3 => h1 H3 (Ex.tr e (Ex.tr e2 e3)) _ fun H4 e4 => ⟨true, rfl, by
    show tc σ H4 _
    exact hc H4 (Ex.tr e (Ex.tr e2 (Ex.tr e3 e4))) _ fun H5 e5 => h2 H5 (Ex.tr e (Ex.tr e2 (Ex.tr e3 (Ex.tr e4 e5)))) Q fun H6 e6 => q H6 (Ex.tr e2 (Ex.tr e3 (Ex.tr e4 (Ex.tr e5 e6))))⟩
theorem rv_leT {i j : Int} (h : i ≤ j) : Evl.RV (rI0 fun i j => .bl (decide (i ≤ j))) (.int i) (.int j) H (.bl true) := by
  have := Evl.rv_I0 (g := fun i j => V.bl (decide (i ≤ j))) (i := i) (j := j) (H := H)
  rwa [show decide (i ≤ j) = true from decide_eq_true h] at this
theorem rv_ltT {i j : Int} (h : i < j) : Evl.RV (rI0 fun i j => .bl (decide (i < j))) (.int i) (.int j) H (.bl true) := by
  have := Evl.rv_I0 (g := fun i j => V.bl (decide (i < j))) (i := i) (j := j) (H := H)
  rwa [show decide (i < j) = true from decide_eq_true h] at this
theorem rv_gtF {i j : Int} (h : i ≤ j) : Evl.RV (rI0 fun i j => .bl (decide (j < i))) (.int i) (.int j) H (.bl false) := by
  have := Evl.rv_I0 (g := fun i j => V.bl (decide (j < i))) (i := i) (j := j) (H := H)
  rwa [show decide (j < i) = false from decide_eq_false (by omega)] at this
theorem rv_eqI {i j : Int} {b : Bool} (h : decide (i = j) = b) : Evl.RV rEq (.int i) (.int j) H (.bl b) := by
  have := Evl.rv_eq (x := .int i) (y := .int j) (H := H) rfl
  rwa [show decide (V.int i = V.int j) = b by rw [← h]; simp] at this
theorem rv_neI {i j : Int} {b : Bool} (h : (!decide (i = j)) = b) : Evl.RV rNe (.int i) (.int j) H (.bl b) := by
  have := Evl.rv_ne (x := .int i) (y := .int j) (H := H) rfl
  rwa [show (!decide (V.int i = V.int j)) = b by rw [← h]; simp] at this
/-! ### an instance in the making -/
def Rel.ButI (r : Rel) (d0 : Addr) : Prop := ∀ v H H' C dx fs, H d0 = some (.ins C dx fs) → ExB d0 H H' → r.on v H → r.on v H'
theorem sql_butI {a d0 C dx : Addr} {fs : List (Str × V)} {xs : List V} (h0 : H d0 = some (.ins C dx fs)) (e : ExB d0 H H') (h : SqL K H a xs) : SqL K H' a xs := by
  rcases h with (h | ⟨o, h⟩) | h
  · exact .inl (.inl (e _ _ (fun z => by rw [z, h0] at h; cases h) h))
  · exact .inl (.inr ⟨o, e _ _ (fun z => by rw [z, h0] at h; cases h) h⟩)
  · exact .inr h
theorem sqt_butI {a d0 C dx : Addr} {fs : List (Str × V)} {xs : List V} (h0 : H d0 = some (.ins C dx fs)) (e : ExB d0 H H') (h : SqT K H a xs) : SqT K H' a xs := sqt_but e (noT_ins h0) h
mutual
theorem dp_butI {d0 C dx : Addr} {fs : List (Str × V)} (h0 : H d0 = some (.ins C dx fs)) (e : ExB d0 H H') : ∀ (d : PyData) (v : V), Dp K H v d → Dp K H' v d
  | .none, _, h => by cases h; exact .non
  | .bool _, _, h => by cases h; exact .bl _
  | .int _, _, h => by cases h; exact .int _
  | .str _, _, h => by cases h; exact .str _
  | .list ds, _, h => by
    cases h with
    | lst hs ha => exact .lst (sql_butI h0 e hs) (dpa_butI h0 e ds _ ha)
  | .tuple ds, _, h => by
    cases h with
    | tup hs ha => exact .tup (sqt_butI h0 e hs) (dpa_butI h0 e ds _ ha)
  | .dict _, _, h => by cases h
theorem dpa_butI {d0 C dx : Addr} {fs : List (Str × V)} (h0 : H d0 = some (.ins C dx fs)) (e : ExB d0 H H') : ∀ (ds : List PyData) (vs : List V), DpAll K H vs ds → DpAll K H' vs ds
  | [], _, h => by cases h; exact .nil
  | d :: ds, _, h => by
    cases h with
    | cons h1 h2 => exact .cons (dp_butI h0 e d _ h1) (dpa_butI h0 e ds _ h2)
end
theorem butI_V {u : V} {d0 : Addr} : (rV u).ButI d0 := fun _ _ _ _ _ _ _ _ h => h
theorem butI_D {d0 : Addr} : (rD K d).ButI d0 := fun v H H' C dx fs h0 e h => dp_butI h0 e d v h
/-- what stood before d0 was made -/
def rB (B : Hp) (r : Rel) : Rel := ⟨fun v H => Ex B H ∧ r.on v B, fun e h => ⟨Ex.tr h.1 e, h.2⟩⟩
theorem butI_B {B : Hp} {d0 : Addr} (h : B d0 = none) : (rB B r).ButI d0 := fun v H H' C dx fs _ e q => ⟨ExB.ex q.1 e h, q.2⟩
theorem rB_on {B : Hp} (q : (rB B r).on v H) : r.on v H := r.up q.1 q.2
structure Ini (H0 : Hp) (x C dx : Addr) (fs : List (Str × V)) (F : List (Str × Rel)) (H : Hp) : Prop where
  ex : ExB x H0 H
  at_ : H x = some (.ins C dx fs)
  fl : Flds F fs H
theorem Ini.ext {H0 : Hp} {a C dx : Addr} {fs : List (Str × V)} {F : List (Str × Rel)} (I : Ini H0 a C dx fs F H) (e : Ex H H') : Ini H0 a C dx fs F H' := ⟨I.ex.tr (Ex.but e), e _ _ I.at_, I.fl.up e⟩
theorem Ini.base {B H0 : Hp} {a C dx : Addr} {fs : List (Str × V)} {F : List (Str × Rel)} (I : Ini H0 a C dx fs F H) (e : Ex B H0) (h : B a = none) : Ex B H := ExB.ex e I.ex h
theorem Ini.self {H0 : Hp} {a C dx : Addr} {fs : List (Str × V)} {F : List (Str × Rel)} (I : Ini H0 a C dx fs F H) : (rIns C F).on (.ref a) H := ⟨a, dx, fs, rfl, I.at_, I.fl⟩
theorem putF_new {f : Str} {v : V} : ∀ {fs : List (Str × V)}, fs.lookup f = none → putF f v fs = fs ++ [(f, v)]
  | [], _ => rfl
  | (g, u) :: fs, h => by
    rw [List.lookup_cons] at h
    cases q : f == g with
    | true => rw [q] at h; cases h
    | false =>
      rw [q] at h
      have ih := putF_new (v := v) h
      have q' : ¬ g = f := fun z => by rw [z] at q; simp at q
      unfold putF
      first
        | rw [if_neg q', ih]; rfl
        | (simp [q', ih])
theorem Flds.snoc {f : Str} : ∀ {F : List (Str × Rel)} {fs : List (Str × V)}, Flds F fs H → r.on v H → Flds (F ++ [(f, r)]) (fs ++ [(f, v)]) H
  | [], [], _, h => ⟨rfl, h, trivial⟩
  | a :: F, b :: fs, h, h2 => ⟨h.1, h.2.1, Flds.snoc h.2.2 h2⟩
  | [], _ :: _, h, _ => h.elim
  | _ :: _, [], h, _ => h.elim
theorem Flds.butI {d0 C dx : Addr} {fs0 : List (Str × V)} (h : H d0 = some (.ins C dx fs0)) (e : ExB d0 H H') : ∀ {rs : List (Str × Rel)} {vs : List (Str × V)}, (∀ r ∈ rs, r.2.ButI d0) → Flds rs vs H → Flds rs vs H'
  | [], [], _, _ => trivial
  | r :: rs, v :: vs, hb, q => ⟨q.1, hb r List.mem_cons_self v.2 H H' C dx fs0 h e q.2.1, Flds.butI h e (fun r hr => hb r (List.mem_cons_of_mem _ hr)) q.2.2⟩
  | [], _ :: _, _, h => h.elim
  | _ :: _, [], _, h => h.elim
theorem Flds.len : ∀ {F : List (Str × Rel)} {fs : List (Str × V)}, Flds F fs H → fs.length = F.length
  | [], [], _ => rfl
  | _ :: F, _ :: fs, h => by rw [List.length_cons, List.length_cons, Flds.len h.2.2]
  | [], _ :: _, h => h.elim
  | _ :: _, [], h => h.elim
theorem Ini.put {H0 : Hp} {a C dx : Addr} {fs : List (Str × V)} {F : List (Str × Rel)} {f : Str} (I : Ini H0 a C dx fs F H) (hf : F.lookup f = none) (hF : ∀ p ∈ F, p.2.ButI a) (hb : r.ButI a) (hv : r.on v H) :
    Ini H0 a C dx (putF f v fs) (F ++ [(f, r)]) (upd H a (.ins C dx (putF f v fs))) := by
  rw [putF_new (I.fl.none hf)]
  have e := ExB.upd a H (.ins C dx (fs ++ [(f, v)]))
  exact ⟨I.ex.tr e, upd_same, Flds.snoc (Flds.butI I.at_ e hF I.fl) (hb v _ _ C dx fs I.at_ e hv)⟩
theorem g_ini {H0 : Hp} {a C dx : Addr} {fs : List (Str × V)} {F : List (Str × Rel)} {f : Str} (I : Ini H0 a C dx fs F H) (hv : GD tv σ H r) (ho : Evl.Ev ta σ H (.ref a)) (c : Cls K C) (n : NoAttr K C f) (hb : r.ButI a) (hF : ∀ p ∈ F, p.2.ButI a)
    (k : ∀ fs' H', Ini H0 a C dx fs' (F ++ [(f, r)]) H' → tz D σ H') (hf : F.lookup f = none := by rfl) (l : F.length < 1000 := by simp) : tSeq (sFld K ta tv f) tz D σ H :=
  hv H Ex.rfl' _ fun v H1 e1 hr => ho H1 e1 _ fun H2 e2 => by
    have I2 := I.ext (Ex.tr e1 e2)
    exact ⟨a, C, dx, fs, rfl, I2.at_, c, n, by rw [I2.fl.len]; exact l, k _ _ (I2.put hf hF hb (r.up e2 hr))⟩
theorem g_ini' {H0 : Hp} {a C dx : Addr} {fs : List (Str × V)} {F : List (Str × Rel)} {f : Str} (I : Ini H0 a C dx fs F H) (hv : GD tv σ H r) (ho : Evl.Ev ta σ H (.ref a)) (c : Cls K C) (n : NoAttr K C f) (hb : r.ButI a) (hF : ∀ p ∈ F, p.2.ButI a)
    (k : ∀ fs' H', Ini H0 a C dx fs' (F ++ [(f, r)]) H' → D.nx σ H') (hf : F.lookup f = none := by rfl) (l : F.length < 1000 := by simp) : sFld K ta tv f D σ H :=
  g_ini (tz := fun D' σ' H' => D.nx σ' H') (D := D) I hv ho c n hb hF k hf l
end
/-! ### two clauses -/
section
variable {J : It} {n : Nat} {G : Hp → Prop} {Y : Nat → Hp → V → Hp → Prop}
theorem lc_any (w : Walk J n G Y) {H0 : Hp} {Qd : Hp → Prop} {B : (Hp → Prop) → V → Hp → Prop} (Pv : Nat → Hp → Prop) (h0 : Pv 0 H0) (hG : ∀ i H, i ≤ n → Pv i H → G H) (hs : ∀ i x H H', i < n → Pv i H → Y i H x H' → B (Pv (i + 1)) x H') (hd : ∀ H, Pv n H → Qd H) :
    ∃ W : Nat → Nat → Hp → Prop, (∃ m, W 0 m H0) ∧ ∀ i m H, W i m H → (J.stop i H ∧ Qd H) ∨ (J.go i H ∧ ∃ Nx : Hp → Prop, (∀ H', Nx H' → ∃ m', m' < m ∧ W (i + 1) m' H') ∧ ∀ x H', J.yld i H x H' → B Nx x H') := by
  refine ⟨fun i m H => m = n - i ∧ i ≤ n ∧ Pv i H, ⟨n, by simp, Nat.zero_le _, h0⟩, ?_⟩
  rintro i m H ⟨rfl, hi, p⟩
  have q := hG i H hi p
  by_cases hlt : i < n
  · exact .inr ⟨w.goes i H hlt q, Pv (i + 1), fun H' p' => ⟨n - (i + 1), by omega, rfl, hlt, p'⟩, fun x H' y => hs i x H H' hlt p (w.yields i H x H' hlt q y)⟩
  · have e : i = n := by omega
    subst e
    exact .inl ⟨w.stops H q, hd H p⟩
end
theorem alls_rep {H : Hp} {u : V} : ∀ {α : Type} (l : List α), Alls (l.map fun _ => rV u) (List.replicate l.length u) H
  | _, [] => trivial
  | _, _ :: l => ⟨rfl, alls_rep l⟩
theorem flat_take {α β : Type} {ms : List α} {ks : α → List β} {i : Nat} {m : α} (hm : ms[i]? = some m) : (ms.take (i + 1)).flatMap ks = (ms.take i).flatMap ks ++ ks m := by
  rw [List.take_succ, hm, List.flatMap_append]
  simp
theorem flat_take_le {α β : Type} {ms : List α} {ks : α → List β} (i : Nat) : ((ms.take i).flatMap ks).length ≤ (ms.flatMap ks).length := by
  conv => rhs; rw [← List.take_append_drop i ms, List.flatMap_append, List.length_append]
  omega
/-- a walk over what stands -/
def GB (wi : TI) (σ : L2.St) (H : Hp) {α : Type} (ms : List α) (e : α → Rel) : Prop := ∀ H1, Ex H H1 → ∀ R : It → Hp → Prop, (∀ J, Walk J ms.length (Ex H) (fun i H3 x H4 => H4 = H3 ∧ ∃ m, ms[i]? = some m ∧ (e m).on x H) → R J H1) → wi σ H1 R
section
variable {K : PySem.W.Frag} {σ : L2.St} {H : Hp} {α : Type} {ms : List α} {f : α → PyData} {i : Nat} {x : V} {d : PyData}
theorem gb_list (hx : σ[i]? = some (some x)) (h : Dp K H x (.list (ms.map f))) : GB (iList K (tVar i)) σ H ms (fun m => rD K (f m)) := fun H1 e1 R q => by
  obtain ⟨a, xs, rfl, h1, h2⟩ := dp_lst h
  have h2 := dpa_map h2
  refine ⟨.ref a, hx, a, rfl, ⟨xs, sql_ex e1 h1⟩, q _ ?_⟩
  have hl : ms.length = xs.length := by have := h2.len; simpa using this.symm
  rw [hl]
  exact walk_list.mono (fun H3 e3 => sql_ex e3 h1) fun i H3 x H4 hi e3 y => ⟨y.1, alls_at h2 y.2⟩
theorem gb_seq (hx : σ[i]? = some (some x)) (h : Dp K H x d) (s : SeqD d (ms.map f)) : GB (iSeq K (tVar i)) σ H ms (fun m => rD K (f m)) := fun H1 e1 R q => by
  obtain ⟨a, xs, rfl, h1, h2⟩ := seq_at s h
  have h2 := dpa_map h2
  have hl : ms.length = xs.length := by have := h2.len; simpa using this.symm
  rcases h1 with h1 | h1
  · refine ⟨.ref a, hx, a, rfl, .inl ⟨⟨xs, sql_ex e1 h1⟩, q _ ?_⟩⟩
    rw [hl]
    exact walk_list.mono (fun H3 e3 => sql_ex e3 h1) fun i H3 x H4 hi e3 y => ⟨y.1, alls_at h2 y.2⟩
  · refine ⟨.ref a, hx, a, rfl, .inr ⟨⟨xs, sqt_ex e1 h1⟩, q _ ?_⟩⟩
    rw [hl]
    exact walk_tup.mono (fun H3 e3 => sqt_ex e3 h1) fun i H3 x H4 hi e3 y => ⟨y.1, alls_at h2 y.2⟩
end
/-- two clauses, one value at each -/
theorem gd_lc2T {K : PySem.W.Frag} {σ : L2.St} {H : Hp} {te : TE} {ti ti1 : TI} {vs vs1 : List Nat} {α β : Type} {ms : List α} {e : α → Rel} {ks : α → List β} {e1 : α → β → Rel} {i j : Nat} {u : V} (h : GB ti σ H ms e) (hz : (ms.flatMap ks).length ≤ 90000)
    (hw : ∀ x y, wipe (((wipe ((wipe σ vs).set i (some x)) vs1).set j (some y))) vs1 = wipe ((wipe σ vs).set i (some x)) vs1) (hw0 : ∀ x, wipe ((wipe σ vs).set i (some x)) vs = wipe σ vs)
    (hi : ∀ m ∈ ms, ∀ x, (e m).on x H → GB ti1 ((wipe σ vs).set i (some x)) H (ks m) (e1 m))
    (he : ∀ m ∈ ms, ∀ k ∈ ks m, ∀ x y, (e m).on x H → (e1 m k).on y H → Evl.Ev te ((wipe ((wipe σ vs).set i (some x)) vs1).set j (some y)) H u) {Q : VK} (q : ∀ v H', Ex H H' → (rLst K ((ms.flatMap ks).map fun _ => rV u)).on v H' → Q v H') :
    tLc2 ti (gName i) tYes ti1 (gName j) tYes te vs vs1 σ H Q := h H Ex.rfl' _ fun J w Dl hD => by
  refine lc_any w (fun i H' => Ex H H' ∧ H' Dl = some (.lst (List.replicate ((ms.take i).flatMap ks).length u))) ⟨Ex.nw hD, by simp [upd_same]⟩ (fun i H' _ q => q.1) ?_ ?_
  · rintro n x H3 H4 hn ⟨a3, h1⟩ ⟨rfl, m, hm, hr⟩
    have hmem := List.mem_of_getElem? hm
    refine ⟨hw0 x, ?_⟩
    show ti1 _ H4 _
    refine hi m hmem x hr H4 a3 _ fun J1 w1 => ?_
    have key : ∀ c y, (ks m)[c]? = some y → ((ms.take n).flatMap ks).length + c < 100000 := fun c y hc => by
      have b1 := (List.getElem?_eq_some_iff.mp hc).1
      have b2 := flat_take_le (ms := ms) (ks := ks) (n + 1)
      rw [flat_take hm, List.length_append] at b2
      omega
    refine lc_any w1 (fun c H' => Ex H H' ∧ H' Dl = some (.lst (List.replicate (((ms.take n).flatMap ks).length + c) u))) ⟨a3, by rw [Nat.add_zero]; exact h1⟩ (fun c H' _ q => q.1) ?_ ?_
    · rintro c y H5 H6 hc ⟨a5, h5⟩ ⟨rfl, k, hk, hy⟩
      refine ⟨hw x y, ?_⟩
      show te _ H6 _
      refine he m hmem k (List.mem_of_getElem? hk) x y hr hy H6 a5 _ fun H7 e7 => ⟨_, e7 _ _ h5, ?_, Evl.Ex.mut (Ex.tr a5 e7) hD, ?_⟩
      · rw [List.length_replicate]
        exact Evl.sz_lt (key c k hk)
      · rw [upd_same, ← Nat.add_assoc, List.replicate_succ']
    · rintro H5 ⟨a5, h5⟩
      refine ⟨a5, ?_⟩
      rw [flat_take hm, List.length_append]
      exact h5
  · rintro H3 ⟨a3, h1⟩
    rw [List.take_length] at h1
    exact q _ _ a3 ⟨Dl, _, rfl, Evl.sq_of h1, alls_rep _⟩
end Mk
namespace Mk
open PySem PySem.Spec PyProof.Rows L2

/-! ### is_rule -/
abbrev N_is_rule : List Str := ["value", "exits", "standings"]
theorem sc_is_rule : FnScope N_is_rule ["value", "exits", "standings"] (defScope s_is_rule) := ⟨rfl, rfl, rfl, by decide +kernel, rfl, by decide +kernel, by decide +kernel⟩
def dRule (p : Rule) : PyData := .tuple [.int p.1, .int p.2]
inductive rel_is_rule (K : PySem.W.Frag) : List Rel → Rel → Prop
  | mk (p : Rule) (e n : Nat) (h1 : p.1 < e) (h2 : p.2 < n) : rel_is_rule K [rD K (dRule p), rD K (.int e), rD K (.int n)] (rV (.bl true))
theorem ok_is_rule {P : Program} {w : World} {K : PySem.W.Frag} {mg : Str → Option Value} {base : Heap} (T : Txt K mg) : Cal P w K mg base "is_rule" 3 ["value", "exits", "standings"] [] (SpR (rel_is_rule K)) := by
  refine cal_of (st := s_is_rule) T.g_is_rule (T.d.def_ 7 rfl) (fun _ _ _ _ _ _ us hl => match us, hl with | [_, _, _], _ => rfl) sc_is_rule (fun vs H Q E hsp => by obtain ⟨rs, r, h, ha, _⟩ := hsp; rw [ha.len]; cases h <;> rfl) fun cdv A outer s H vs Q E hr hsp => ?_
  have hu := hr.units
  have hu0 := hu_of hr
  have hu65 := hu65_of hr
  refine ⟨_, (pss_cons (ps_if (PW.pt (pw_or (pt_not (pt_val (pe_callB (id := "isinstance") call_isiT (by rfl) T.f_isinstance (by decide +kernel) (pa_cons (pv 0) (pa_cons (pe_tup (pa_cons (pe_bltn (v := .ty "list") rfl T.f_list (by decide +kernel) rfl) (pa_cons (pe_bltn (v := .ty "tuple") rfl T.f_tuple (by decide +kernel) rfl) pa_nil))) pa_nil))))) (pw_or1 (pt_cmpR op_ne (pe_callB (id := "len") call_len_seq (by rfl) T.f_len PySem.boot_len (pa_cons (pv 0) pa_nil)) pe_int (nomark _))))) (pss_one (ps_ret pe_bl)) pss_nil)
      (pss_one (ps_ret (pe_and (pe_cal (ok_is_within (P := P) (w := w) (base := base) T) (hr.mono (by decide)) rfl (pa_cons (pe_ix ix_tup (pv 0) pe_int (fun _ _ => rfl)) (pa_cons pe_int (pa_cons (pe_op op_sub (pv 1) pe_int) pa_nil)))) (pe_one (pe_cal (ok_is_within (P := P) (w := w) (base := base) T) (hr.mono (by decide)) rfl (pa_cons (pe_ix ix_tup (pv 0) pe_int (fun _ _ => rfl)) (pa_cons pe_int (pa_cons (pe_op op_sub (pv 2) pe_int) pa_nil))))))))), ?_⟩

  obtain ⟨rs, r, h, ha, hQ⟩ := hsp
  cases h with
  | mk p e n hp1 hp2 =>
    obtain ⟨v0, v1, v2, rfl, h0, h1, h2⟩ := alls3 ha
    obtain rfl := dp_int h1
    obtain rfl := dp_int h2
    refine Evl.q_when (b := false) (Evl.et_or (a := false) (b := false) (Evl.et_not (a := true) (Evl.et_test (ev_isiT (gd_v rfl h0) kia_t))) (fun _ => Evl.et_B (Evl.ev_op (ev_lenS (gd_v rfl h0) (.inr rfl)) Evl.ev_c (rv_neI (by rfl))))) (fun h => by cases h) (fun H1 _ e1 => ?_)
    have hl : ∀ (v m : Nat), v < m → (V.bl (decide ((0 : Int) ≤ (v : Int)) && decide ((v : Int) ≤ (m : Int) - 1))) = .bl true := fun v m h => by
      rw [decide_eq_true (show (0 : Int) ≤ (v : Int) by omega), decide_eq_true (show (v : Int) ≤ (m : Int) - 1 by omega)]
      rfl
    have g1 := dp_ex e1 _ _ h0
    refine Evl.s_ret (Evl.ev_andV (a := true) (b := true) (Evl.ev_is (ev_call (ga_cons (gd_ixT (gd_v (i := 0) rfl g1) Evl.ev_c rfl) (ga_int Evl.ev_c (ga_int (Evl.ev_op (Evl.ev_var rfl) Evl.ev_c Evl.rv_I0) ga_nil))) (.mk _ _ _)) (hl _ _ hp1))
      (fun _ => Evl.ev_is (ev_call (ga_cons (gd_ixT (gd_v (i := 0) rfl g1) Evl.ev_c rfl) (ga_int Evl.ev_c (ga_int (Evl.ev_op (Evl.ev_var rfl) Evl.ev_c Evl.rv_I0) ga_nil))) (.mk _ _ _)) (hl _ _ hp2))) (fun H2 e2 => hQ _ _ (Ex.tr e1 e2) rfl)
/-! ### are_rules -/
abbrev N_are_rules : List Str := ["value", "exits", "each", "rule"]
theorem sc_are_rules : FnScope N_are_rules ["value", "exits"] (defScope s_are_rules) := ⟨rfl, rfl, rfl, by decide +kernel, rfl, by decide +kernel, by decide +kernel⟩
def dRowL (r : List Rule) : PyData := .list (r.map dRule)
def dRowT (r : List Rule) : PyData := .tuple (r.map dRule)
def dRulesL (R : Rules) : PyData := .list (R.map dRowL)
def dRulesT (R : Rules) : PyData := .tuple (R.map dRowT)
structure Small (e n w : Nat) (R : Rules) : Prop extends OkR e n w R where
  e1 : 1 ≤ e
  e2 : e ≤ 36
  n1 : 1 ≤ n
  n2 : n ≤ 300
  w1 : 1 ≤ w
  w2 : w ≤ 6
inductive rel_are_rules (K : PySem.W.Frag) : List Rel → Rel → Prop
  | mk (d : PyData) (R : Rules) (e n w : Nat) (s : SeqD d (R.map dRowL)) (ok : Small e n w R) : rel_are_rules K [rD K d, rD K (.int e)] (rV (.bl true))
theorem ev_ixS {K : PySem.W.Frag} {σ : L2.St} {H : Hp} {ta tb : TE} {d d1 : PyData} {ds : List PyData} {j : Nat} (h : GD ta σ H (rD K d)) (s : SeqD d ds) (hi : Evl.Ev tb σ H (.int ((j : Nat) : Int))) (e : ds[j]? = some d1) : GD (tOp (rIx K) ta tb) σ H (rD K d1) := fun H1 e1 Q q =>
  h H1 e1 _ fun x H2 e2 hx => hi H2 (Ex.tr e1 e2) _ fun H3 e3 => by
    obtain ⟨a, xs, rfl, h1, h2⟩ := seq_at s (dp_ex e3 _ _ hx)
    obtain ⟨v, h4, h5⟩ := dpa_get h2 e
    rcases h1 with h1 | h1
    · exact .inl ⟨a, xs, _, v, rfl, rfl, h1, atI_nat h4, q v H3 (Ex.tr e2 e3) h5⟩
    · exact .inr (.inl ⟨a, xs, _, v, rfl, rfl, h1, atI_nat h4, q v H3 (Ex.tr e2 e3) h5⟩)
theorem ok_are_rules {P : Program} {w : World} {K : PySem.W.Frag} {mg : Str → Option Value} {base : Heap} (T : Txt K mg) : Cal P w K mg base "are_rules" 4 ["value", "exits"] [] (SpR (rel_are_rules K)) := by
  refine cal_of (st := s_are_rules) T.g_are_rules (T.d.def_ 8 rfl) (fun _ _ _ _ _ _ us hl => match us, hl with | [_, _], _ => rfl) sc_are_rules (fun vs H Q E hsp => by obtain ⟨rs, r, h, ha, _⟩ := hsp; rw [ha.len]; cases h <;> rfl) fun cdv A outer s H vs Q E hr hsp => ?_
  have hu := hr.units
  have hu0 := hu_of hr
  have hu65 := hu65_of hr
  refine ⟨_, (pss_cons (ps_if (PW.pt (pw_or (pt_not (pt_val (pe_callB (id := "isinstance") call_isiT (by rfl) T.f_isinstance (by decide +kernel) (pa_cons (pv 0) (pa_cons (pe_tup (pa_cons (pe_bltn (v := .ty "list") rfl T.f_list (by decide +kernel) rfl) (pa_cons (pe_bltn (v := .ty "tuple") rfl T.f_tuple (by decide +kernel) rfl) pa_nil))) pa_nil))))) (pw_or1 (pt_not (pt_chain op_le op_le pe_int (pe_callB (id := "len") call_len_seq (by rfl) T.f_len PySem.boot_len (pa_cons (pv 0) pa_nil)) (pe_gint rfl T.i_MOST_STANDINGS)))))) (pss_one (ps_ret pe_bl)) pss_nil)
      (pss_cons (ps_if (pt_not (pt_val (pe_callB (id := "all") (cr_all rfl) (by rfl) T.f_all (by decide +kernel) (pa_cons (pe_lc rfl sc_are_rules.nd (pi_seq (pv 0)) (blkOk_by (own := [("each", 2)]) rfl) (fun _ _ _ _ _ => (pg_name (i := 2) sc_are_rules.nd rfl (Or.inl rfl))) (fun _ _ _ _ _ => pts_nil) (fun _ _ _ _ _ => (pe_and (show PE _ _ (tCB (rIsiT K) _) from (pe_callB (id := "isinstance") call_isiT (by rfl) T.f_isinstance (by decide +kernel) (pa_cons (pv 2) (pa_cons (pe_tup (pa_cons (pe_bltn (v := .ty "list") rfl T.f_list (by decide +kernel) rfl) (pa_cons (pe_bltn (v := .ty "tuple") rfl T.f_tuple (by decide +kernel) rfl) pa_nil))) pa_nil)))) (pe_one (pe_chain op_le op_le pe_int (show PE _ _ (tCB (Evl.rLenS K) _) from (pe_callB (id := "len") call_len_seq (by rfl) T.f_len PySem.boot_len (pa_cons (pv 2) pa_nil))) (pe_gint rfl T.i_MOST_WAYS)))))) pa_nil)))) (pss_one (ps_ret pe_bl)) pss_nil)
      (pss_cons (ps_if (pt_not (pt_val (pe_callB (id := "all") (cr_all rfl) (by rfl) T.f_all (by decide +kernel) (pa_cons (pe_lc rfl sc_are_rules.nd (pi_seq (pv 0)) (blkOk_by (own := [("each", 2)]) rfl) (fun _ _ _ _ _ => (pg_name (i := 2) sc_are_rules.nd rfl (Or.inl rfl))) (fun _ _ _ _ _ => pts_nil) (fun _ _ _ _ _ => (pe_cmpR op_eq (show PE _ _ (tCB (Evl.rLenS K) _) from (pe_callB (id := "len") call_len_seq (by rfl) T.f_len PySem.boot_len (pa_cons (pv 2) pa_nil))) (show PE _ _ (tCB (Evl.rLenS K) _) from (pe_callB (id := "len") call_len_seq (by rfl) T.f_len PySem.boot_len (pa_cons (show PE _ _ (tOp (rIx K) _ _) from (pe_ix ix_seq (pv 0) pe_int (fun _ _ => rfl))) pa_nil))) (nomark _)))) pa_nil)))) (pss_one (ps_ret pe_bl)) pss_nil)
      (pss_one (ps_ret (pe_callB (id := "all") (cr_all rfl) (by rfl) T.f_all (by decide +kernel) (pa_cons (pe_lc2 rfl sc_are_rules.nd (pi_seq (pv 0)) (blkOk_by (own := [("each", 2), ("rule", 3)]) rfl) (show ∀ i ∈ ([3] : List Nat), i ∈ ([2, 3] : List Nat) from by decide) (fun _ _ _ _ _ => (pg_name (i := 2) sc_are_rules.nd rfl (Or.inl rfl))) (fun _ _ _ _ _ => pts_nil) (fun _ _ _ _ _ => (show PI _ _ _ (iList K _) from (pi_list (pv 2)))) (fun _ _ _ _ _ => (pg_name (i := 3) sc_are_rules.nd rfl (Or.inl rfl))) (fun _ _ _ _ _ => pts_nil) (fun _ _ _ _ _ => (pe_cal (ok_is_rule (P := P) (w := w) (base := base) T) (hr.mono (by decide)) rfl (pa_cons (pv 3) (pa_cons (pv 1) (pa_cons (show PE _ _ (tCB (Evl.rLenS K) _) from (pe_callB (id := "len") call_len_seq (by rfl) T.f_len PySem.boot_len (pa_cons (pv 0) pa_nil))) pa_nil)))))) pa_nil))))))), ?_⟩

  obtain ⟨rs, r, h, ha, hQ⟩ := hsp
  cases h with
  | mk d R e n w s ok =>
    obtain ⟨v0, v1, rfl, h0, h1⟩ := alls2 ha
    obtain rfl := dp_int h1
    have hlen : (R.map dRowL).length = n := by rw [List.length_map, ok.len]
    obtain ⟨t0, ht0⟩ := T.i_MOST_STANDINGS
    have rowIn : ∀ m ∈ R, m.length = w := ok.row
    refine Evl.q_when (b := false) (Evl.et_or (a := false) (b := false) (Evl.et_not (a := true) (Evl.et_test (ev_isiT (gd_v rfl h0) (kia_s s)))) (fun _ => Evl.et_not (a := true) (Evl.et_test (ev_chain Evl.ev_c (ev_lenS (gd_v rfl h0) s) (rv_leT (by rw [hlen]; have := ok.n1; omega)) Evl.ev_c (rv_leT (by rw [hlen]; have := ok.n2; omega)))))) (fun h => by cases h) (fun _ H1 e1 => ?_)
    have g0 := (rD K d).up e1 h0
    refine Evl.q_when (b := false) (Evl.et_not (a := true) (Evl.et_test (ev_all1 (gd_lcM (fun _ => rV (.bl true)) (gi_seq (gd_v (i := 0) rfl g0) s) (by have := ok.n2; have := ok.len; omega) (fun _ => but_V) (fun _ => rfl) (fun m hm x H2 e2 hx => gd_ev (v := .bl true) (Evl.ev_andV (a := true) (b := true) (ev_isiT (gd_v rfl hx) kia_l) (fun _ => ev_chain Evl.ev_c (ev_lenS (gd_v rfl hx) (.inl rfl)) (rv_leT (by rw [List.length_map, rowIn m hm]; have := ok.w1; omega)) Evl.ev_c (rv_leT (by rw [List.length_map, rowIn m hm]; have := ok.w2; omega)))) rfl))))) (fun h => by cases h) (fun _ H2 e2 => ?_)
    have g1 := (rD K d).up e2 g0
    have hR0 : (R.map dRowL)[0]? = some (dRowL (rowAt R 0)) := by
      rw [List.getElem?_map]
      have h0 : 0 < R.length := by rw [ok.len]; exact ok.n1
      simp [rowAt, List.getElem?_eq_getElem h0]
    have hw0 : (rowAt R 0).length = w := by
      have h0 : 0 < R.length := by rw [ok.len]; exact ok.n1
      refine ok.row _ ?_
      simp [rowAt, List.getElem?_eq_getElem h0]
    refine Evl.q_when (b := false) (Evl.et_not (a := true) (Evl.et_test (ev_all1 (gd_lcM (fun _ => rV (.bl true)) (gi_seq (gd_v (i := 0) rfl g1) s) (by have := ok.n2; have := ok.len; omega) (fun _ => but_V) (fun _ => rfl) (fun m hm x H3 e3 hx => gd_ev (v := .bl true) (Evl.ev_op (ev_lenS (gd_v rfl hx) (.inl rfl)) (ev_lenS (ev_ixS (j := 0) (gd_v (i := 0) rfl ((rD K d).up e3 g1)) s Evl.ev_c hR0) (.inl rfl)) (rv_eqI (by rw [List.length_map, List.length_map, rowIn m hm, hw0]; simp))) rfl))))) (fun h => by cases h) (fun _ H3 e3 => ?_)
    have g2 := (rD K d).up e3 g1
    have hz : (R.flatMap fun m => m).length ≤ 90000 := by
      have key : ∀ l : Rules, (∀ m ∈ l, m.length = w) → (l.flatMap fun m => m).length = l.length * w := by
        intro l
        induction l with
        | nil => intro _; simp
        | cons a l ih =>
          intro h
          rw [List.flatMap_cons, List.length_append, ih fun m hm => h m (List.mem_cons_of_mem _ hm), h a List.mem_cons_self, List.length_cons, Nat.succ_mul, Nat.add_comm]
      rw [key R rowIn, ok.len]
      have := Nat.mul_le_mul ok.n2 ok.w2
      omega
    simp only [tRet, tCB, tCons, tNil]
    refine gd_lc2T (K := K) (ks := fun m => m) (e1 := fun _ p => rD K (dRule p)) (u := .bl true) (gb_seq (i := 0) rfl g2 s) hz (fun _ _ => rfl) (fun _ => rfl) (fun m hm x hx => by exact gb_list (i := 2) rfl hx) (fun m hm k hk x y hx hy => ?_) (fun v H4 e4 hv => ?_)
    rotate_left
    · obtain ⟨a, xs, rfl, k1, k2⟩ := hv
      have e := alls_val k2
      subst e
      refine ⟨a, (R.flatMap fun m => m).map fun _ => true, rfl, by rw [List.map_map]; exact k1, ?_⟩
      rw [show (((R.flatMap fun m => m).map fun _ => true).all id) = true by simp]
      exact hQ _ _ (Ex.tr e1 (Ex.tr e2 (Ex.tr e3 e4))) rfl
    refine ev_call (ga_cons (gd_v rfl hy) (ga_int (Evl.ev_var rfl) (ga_int (ev_lenS (gd_v (i := 0) rfl g2) s) ga_nil))) (by
      rw [hlen]
      exact .mk k e n (ok.out m hm k hk) (ok.nxt m hm k hk))
/-! ### are_begins -/
abbrev N_are_begins : List Str := ["value", "each"]
theorem sc_are_begins : FnScope N_are_begins ["value"] (defScope s_are_begins) := ⟨rfl, rfl, rfl, by decide +kernel, rfl, by decide +kernel, by decide +kernel⟩
inductive rel_are_begins (K : PySem.W.Frag) : List Rel → Rel → Prop
  | mk (bs : List Nat) (hb : ∀ b ∈ bs, b ≤ 1) (hl : bs.length ≤ 1200) : rel_are_begins K [rD K (.list (bs.map fun b => .int (b : Nat)))] (rV (.bl true))
theorem ok_are_begins {P : Program} {w : World} {K : PySem.W.Frag} {mg : Str → Option Value} {base : Heap} (T : Txt K mg) : Cal P w K mg base "are_begins" 4 ["value"] [] (SpR (rel_are_begins K)) := by
  refine cal_of (st := s_are_begins) T.g_are_begins (T.d.def_ 14 rfl) (fun _ _ _ _ _ _ us hl => match us, hl with | [_], _ => rfl) sc_are_begins (fun vs H Q E hsp => by obtain ⟨rs, r, h, ha, _⟩ := hsp; rw [ha.len]; cases h <;> rfl) fun cdv A outer s H vs Q E hr hsp => ?_
  have hu := hr.units
  have hu0 := hu_of hr
  have hu65 := hu65_of hr
  refine ⟨_, (pss_cons (ps_if (PW.pt (pw_or (pt_not (pt_val (pe_callB (id := "isinstance") call_isiT (by rfl) T.f_isinstance (by decide +kernel) (pa_cons (pv 0) (pa_cons (pe_tup (pa_cons (pe_bltn (v := .ty "list") rfl T.f_list (by decide +kernel) rfl) (pa_cons (pe_bltn (v := .ty "tuple") rfl T.f_tuple (by decide +kernel) rfl) pa_nil))) pa_nil))))) (pw_or1 (pt_cmpR op_gt (pe_callB (id := "len") call_len_seq (by rfl) T.f_len PySem.boot_len (pa_cons (pv 0) pa_nil)) (pe_gint rfl T.i_MOST_PIECES) (nomark _))))) (pss_one (ps_ret pe_bl)) pss_nil)
      (pss_one (ps_ret (pe_callB (id := "all") (cr_all rfl) (by rfl) T.f_all (by decide +kernel) (pa_cons (pe_lc rfl sc_are_begins.nd (pi_list (pv 0)) (blkOk_by (own := [("each", 1)]) rfl) (fun _ _ _ _ _ => (pg_name (i := 1) sc_are_begins.nd rfl (Or.inl rfl))) (fun _ _ _ _ _ => pts_nil) (fun _ _ _ _ _ => (pe_cal (ok_is_bit (P := P) (w := w) (base := base) T) (hr.mono (by decide)) rfl (pa_cons (pv 1) pa_nil)))) pa_nil))))), ?_⟩

  obtain ⟨rs, r, h, ha, hQ⟩ := hsp
  cases h with
  | mk bs hb hl =>
    obtain ⟨v0, rfl, h0⟩ := alls1 ha
    refine Evl.q_when (b := false) (Evl.et_or (a := false) (b := false) (Evl.et_not (a := true) (Evl.et_test (ev_isiT (gd_v rfl h0) kia_l))) (fun _ => Evl.et_B (Evl.ev_op (ev_lenS (gd_v rfl h0) (.inl rfl)) Evl.ev_c (rv_gtF (by rw [List.length_map]; omega))))) (fun h => by cases h) (fun _ H1 e1 => ?_)
    refine Evl.s_ret (ev_all1 (gd_lcM (fun _ => rV (.bl true)) (gi_list (gd_v (i := 0) rfl (dp_ex e1 _ _ h0))) (by omega) (fun _ => but_V) (fun _ => rfl) (fun m hm x H2 e2 hx => gd_ev (v := .bl true) (Evl.ev_is (ev_call (ga_1 (gd_v rfl hx)) (.mk _)) (by
      rw [decide_eq_true (show (0 : Int) ≤ (m : Int) by omega), decide_eq_true (show (m : Int) ≤ 1 by have := hb m hm; omega)]
      rfl)) rfl))) (fun H2 e2 => hQ _ _ (Ex.tr e1 e2) rfl)
/-! ### is_target -/
abbrev N_is_target : List Str := ["value", "exits", "pieces", "ways"]
theorem sc_is_target : FnScope N_is_target ["value", "exits", "pieces", "ways"] (defScope s_is_target) := ⟨rfl, rfl, rfl, by decide +kernel, rfl, by decide +kernel, by decide +kernel⟩
def dTg : Tg → PyData
  | .ex n => .int (n : Nat)
  | .pw p k => .tuple [.int (p : Nat), .int (k : Nat)]
inductive rel_is_target (K : PySem.W.Frag) : List Rel → Rel → Prop
  | mk (t : Tg) (e pc w : Nat) (h : t.ok e pc w) : rel_is_target K [rD K (dTg t), rD K (.int e), rD K (.int pc), rD K (.int w)] (rV (.bl true))
theorem ok_is_target {P : Program} {w : World} {K : PySem.W.Frag} {mg : Str → Option Value} {base : Heap} (T : Txt K mg) : Cal P w K mg base "is_target" 3 ["value", "exits", "pieces", "ways"] [] (SpR (rel_is_target K)) := by
  refine cal_of (st := s_is_target) T.g_is_target (T.d.def_ 15 rfl) (fun _ _ _ _ _ _ us hl => match us, hl with | [_, _, _, _], _ => rfl) sc_is_target (fun vs H Q E hsp => by obtain ⟨rs, r, h, ha, _⟩ := hsp; rw [ha.len]; cases h <;> rfl) fun cdv A outer s H vs Q E hr hsp => ?_
  have hu := hr.units
  have hu0 := hu_of hr
  have hu65 := hu65_of hr
  refine ⟨_, (pss_cons (ps_if (pt_not (pt_val (pe_callB (id := "isinstance") call_isiT (by rfl) T.f_isinstance (by decide +kernel) (pa_cons (pv 0) (pa_cons (pe_tup (pa_cons (pe_bltn (v := .ty "list") rfl T.f_list (by decide +kernel) rfl) (pa_cons (pe_bltn (v := .ty "tuple") rfl T.f_tuple (by decide +kernel) rfl) pa_nil))) pa_nil))))) (pss_one (ps_ret (pe_cal (ok_is_within (P := P) (w := w) (base := base) T) (hr.mono (by decide)) rfl (pa_cons (pv 0) (pa_cons pe_int (pa_cons (pe_op op_sub (pv 1) pe_int) pa_nil)))))) pss_nil)
      (pss_one (ps_ret (pe_and (pe_cmpR op_eq (pe_callB (id := "len") call_len_seq (by rfl) T.f_len PySem.boot_len (pa_cons (pv 0) pa_nil)) pe_int (nomark _)) (pe_and (pe_cal (ok_is_within (P := P) (w := w) (base := base) T) (hr.mono (by decide)) rfl (pa_cons (pe_ix ix_tup (pv 0) pe_int (fun _ _ => rfl)) (pa_cons pe_int (pa_cons (pe_op op_sub (pv 2) pe_int) pa_nil)))) (pe_one (pe_cal (ok_is_within (P := P) (w := w) (base := base) T) (hr.mono (by decide)) rfl (pa_cons (pe_ix ix_tup (pv 0) pe_int (fun _ _ => rfl)) (pa_cons pe_int (pa_cons (pe_op op_sub (pv 3) pe_int) pa_nil)))))))))), ?_⟩

  obtain ⟨rs, r, h, ha, hQ⟩ := hsp
  cases h with
  | mk t e pc w ht =>
    obtain ⟨v0, v1, v2, v3, rfl, h0, h1, h2, h3⟩ := alls4 ha
    obtain rfl := dp_int h1
    obtain rfl := dp_int h2
    obtain rfl := dp_int h3
    have hl : ∀ (v m : Nat), v < m → (V.bl (decide ((0 : Int) ≤ (v : Int)) && decide ((v : Int) ≤ (m : Int) - 1))) = .bl true := fun v m h => by
      rw [decide_eq_true (show (0 : Int) ≤ (v : Int) by omega), decide_eq_true (show (v : Int) ≤ (m : Int) - 1 by omega)]
      rfl
    cases t with
    | ex m =>
      refine Evl.q_when (b := true) (Evl.et_not (a := false) (Evl.et_test (ev_isiT (gd_v rfl h0) kia_i))) (fun _ H1 e1 => ?_) (fun h => by cases h)
      exact Evl.s_ret (Evl.ev_is (ev_call (ga_cons (gd_v rfl (dp_ex e1 _ _ h0)) (ga_int Evl.ev_c (ga_int (Evl.ev_op (Evl.ev_var rfl) Evl.ev_c Evl.rv_I0) ga_nil))) (.mk _ _ _)) (hl _ _ ht)) (fun H2 e2 => hQ _ _ (Ex.tr e1 e2) rfl)
    | pw p k =>
      refine Evl.q_when (b := false) (Evl.et_not (a := true) (Evl.et_test (ev_isiT (gd_v rfl h0) kia_t))) (fun h => by cases h) (fun _ H1 e1 => ?_)
      have g1 := dp_ex e1 _ _ h0
      exact Evl.s_ret (Evl.ev_andV (a := true) (b := true) (Evl.ev_op (ev_lenS (gd_v rfl g1) (.inr rfl)) Evl.ev_c (rv_eqI (by rfl)))
        (fun _ => Evl.ev_andV (a := true) (b := true) (Evl.ev_is (ev_call (ga_cons (gd_ixT (gd_v (i := 0) rfl g1) Evl.ev_c rfl) (ga_int Evl.ev_c (ga_int (Evl.ev_op (Evl.ev_var rfl) Evl.ev_c Evl.rv_I0) ga_nil))) (.mk _ _ _)) (hl _ _ ht.1))
        (fun _ => Evl.ev_is (ev_call (ga_cons (gd_ixT (gd_v (i := 0) rfl g1) Evl.ev_c rfl) (ga_int Evl.ev_c (ga_int (Evl.ev_op (Evl.ev_var rfl) Evl.ev_c Evl.rv_I0) ga_nil))) (.mk _ _ _)) (hl _ _ ht.2)))) (fun H2 e2 => hQ _ _ (Ex.tr e1 e2) rfl)
/-! ### Kind.init -/
abbrev N_Kind_init : List Str := ["self", "ways", "word"]
theorem sc_Kind_init : FnScope N_Kind_init ["self", "ways"] (defScope s_Kind_init) := ⟨rfl, rfl, rfl, by decide +kernel, rfl, by decide +kernel, by decide +kernel⟩
inductive rel_Kind_init (K : PySem.W.Frag) : List Rel → List (Str × Rel) → Prop
  | mk : rel_Kind_init K [rD K (.list (ways3.map .str))] (kindF K)
theorem ok_Kind_init {P : Program} {w : World} {K : PySem.W.Frag} {mg : Str → Option Value} {base : Heap} (T : Txt K mg) : CalI P w K mg base "Kind" (He.ga K "Kind") 2 ["self", "ways"] (SpI (He.ga K "Kind") (rel_Kind_init K)) := by
  refine init_of (st := s_Kind_init) T.g_Kind T.mk_Kind (T.d.def_ 35 rfl) (fun _ _ _ _ _ _ us hl => match us, hl with | [_, _], _ => rfl) sc_Kind_init (fun vs H Q E hsp => by obtain ⟨x, dx, us, rs, F, B, rfl, _, _, _, h, ha, _⟩ := hsp; rw [List.length_cons, ha.len]; cases h <;> rfl) fun cdv A outer s H vs Q E hr hsp => ?_
  have hu := hr.units
  have hu0 := hu_of hr
  have hu65 := hu65_of hr
  refine ⟨_, (pss_cons (ps_if (PW.pt (pw_or (pt_not (pt_val (pe_callB (id := "isinstance") call_isiT (by rfl) T.f_isinstance (by decide +kernel) (pa_cons (pv 1) (pa_cons (pe_tup (pa_cons (pe_bltn (v := .ty "list") rfl T.f_list (by decide +kernel) rfl) (pa_cons (pe_bltn (v := .ty "tuple") rfl T.f_tuple (by decide +kernel) rfl) pa_nil))) pa_nil))))) (pw_or1 (pt_not (pt_chain op_le op_le pe_int (pe_callB (id := "len") call_len_seq (by rfl) T.f_len PySem.boot_len (pa_cons (pv 1) pa_nil)) (pe_gint rfl T.i_MOST_WAYS)))))) (pss_one ps_never) pss_nil)
      (pss_cons (ps_if (pt_not (pt_val (pe_callB (id := "all") (cr_all rfl) (by rfl) T.f_all (by decide +kernel) (pa_cons (pe_lc rfl sc_Kind_init.nd (pi_seq (pv 1)) (blkOk_by (own := [("word", 2)]) rfl) (fun _ _ _ _ _ => (pg_name (i := 2) sc_Kind_init.nd rfl (Or.inl rfl))) (fun _ _ _ _ _ => pts_nil) (fun _ _ _ _ _ => (pe_cal (ok_is_way (P := P) (w := w) (base := base) T) (hr.mono (by decide)) rfl (pa_cons (pv 2) pa_nil)))) pa_nil)))) (pss_one ps_never) pss_nil)
      (pss_cons (ps_fld (pv 0) (pe_callTy (T := "tuple") call_tuple_of (by rfl) T.f_tuple (by decide +kernel) (pa_cons (pv 1) pa_nil)) rfl)
      (pss_one (ps_fld (pv 0) (pe_callB (id := "sum") (cr_sum rfl) (by rfl) T.f_sum (by decide +kernel) (pa_cons (pe_lc rfl sc_Kind_init.nd (pi_tup (pe_fld (pv 0) rfl)) (blkOk_by (own := [("word", 2)]) rfl) (fun _ _ _ _ _ => (pg_name (i := 2) sc_Kind_init.nd rfl (Or.inl rfl))) (fun _ _ _ _ _ => pts_nil) (fun _ _ _ _ _ => (pe_cal (ok_exits_in (P := P) (w := w) (base := base) T) (hr.mono (by decide)) rfl (pa_cons (pv 2) pa_nil)))) pa_nil)) rfl))))), ?_⟩

  obtain ⟨x, dx, us, rs, F, B, rfl, hB, eB, hx, h, ha, hQ⟩ := hsp
  cases h with
  | mk =>
    obtain ⟨v0, rfl, h0⟩ := alls1 ha
    have g0 := dp_ex eB _ _ h0
    refine Evl.q_when (b := false) (Evl.et_or (a := false) (b := false) (Evl.et_not (a := true) (Evl.et_test (ev_isiT (gd_v rfl g0) kia_l))) (fun _ => Evl.et_not (a := true) (Evl.et_test (ev_chain Evl.ev_c (ev_lenS (gd_v rfl g0) (.inl rfl)) (rv_leT (by decide)) Evl.ev_c (rv_leT (by decide)))))) (fun h => by cases h) (fun _ H1 e1 => ?_)
    have g1 := dp_ex e1 _ _ g0
    refine Evl.q_when (b := false) (Evl.et_not (a := true) (Evl.et_test (ev_all1 (gd_lcM (fun _ => rV (.bl true)) (gi_seq (ms := ways3) (gd_v (i := 1) rfl g1) (.inl rfl)) (by decide) (fun _ => but_V) (fun _ => rfl) (fun m hm x H2 e2 hx => gd_call (ga_1 (gd_v rfl hx)) (.mk m (ways3_mem hm))))))) (fun h => by cases h) (fun _ H2 e2 => ?_)
    have g2 := dp_ex e2 _ _ g1
    have I0 : Ini H x (He.ga K "Kind") dx [] [] H2 := ⟨Ex.but (Ex.tr e1 e2), e2 _ _ (e1 _ _ hx), trivial⟩
    refine g_ini (f := "ways") I0 (gd_tupOf (gd_v (i := 1) rfl g2) (.inl rfl)) (Evl.ev_var rfl) T.cl_Kind T.n_Kind_ways butI_D (by simp) (fun fs1 H3 I1 => ?_)
    refine g_ini' (f := "exits") (r := rV (.int 4)) I1 (gd_ev (v := .int 4) (Evl.ev_is (ev_sum (f := fun x => (outs x : Int)) (gd_lcM (fun x => rV (.int (outs x : Int))) (gi_tup (ms := ways3) (gd_fld (gd_v (i := 0) rfl I1.self) T.cl_Kind T.n_Kind_ways)) (by decide) (fun _ => but_V) (fun _ => rfl) (fun m hm x H4 e4 hx => gd_call (ga_1 (gd_v rfl hx)) (.mk m (ways3_mem hm))))) rfl) rfl) (Evl.ev_var rfl) T.cl_Kind T.n_Kind_exits butI_V (by intro p hp; simp at hp; subst hp; exact butI_D) (fun fs2 H4 I2 => ?_)
    exact hQ H4 I2.ex ⟨fs2, I2.at_, I2.fl⟩
/-! ### Table.init -/
abbrev N_Table_init : List Str := ["self", "exits", "rules", "each", "rule"]
theorem sc_Table_init : FnScope N_Table_init ["self", "exits", "rules"] (defScope s_Table_init) := ⟨rfl, rfl, rfl, by decide +kernel, rfl, by decide +kernel, by decide +kernel⟩
def tabF (K : PySem.W.Frag) (e n w : Nat) (R : Rules) : List (Str × Rel) := [("exits", rD K (.int e)), ("rules", rD K (dRulesT R)), ("standings", rD K (.int n)), ("ways", rD K (.int w))]
def tabR (K : PySem.W.Frag) (e n w : Nat) (R : Rules) : Rel := rIns (He.ga K "Table") (tabF K e n w R)
inductive rel_Table_init (K : PySem.W.Frag) : List Rel → List (Str × Rel) → Prop
  | mk (d : PyData) (R : Rules) (e n w : Nat) (s : SeqD d (R.map dRowL)) (ok : Small e n w R) : rel_Table_init K [rD K (.int e), rD K d] (tabF K e n w R)
theorem tup_rule (p : Rule) : tupOnly (dRule p) = true := rfl
theorem tup_all {α : Type} {f : α → PyData} (h : ∀ a, tupOnly (f a) = true) : ∀ l : List α, tupOnlyAll (l.map f) = true
  | [] => rfl
  | a :: l => by
    show (tupOnly (f a) && tupOnlyAll (l.map f)) = true
    rw [h a, tup_all h l]
    rfl
theorem tup_rowT (r : List Rule) : tupOnly (dRowT r) = true := tup_all tup_rule r
theorem tup_rulesT (R : Rules) : tupOnly (dRulesT R) = true := tup_all tup_rowT R
theorem ok_Table_init {P : Program} {w : World} {K : PySem.W.Frag} {mg : Str → Option Value} {base : Heap} (T : Txt K mg) : CalI P w K mg base "Table" (He.ga K "Table") 5 ["self", "exits", "rules"] (SpI (He.ga K "Table") (rel_Table_init K)) := by
  refine init_of (st := s_Table_init) T.g_Table T.mk_Table (T.d.def_ 36 rfl) (fun _ _ _ _ _ _ us hl => match us, hl with | [_, _, _], _ => rfl) sc_Table_init (fun vs H Q E hsp => by obtain ⟨x, dx, us, rs, F, B, rfl, _, _, _, h, ha, _⟩ := hsp; rw [List.length_cons, ha.len]; cases h <;> rfl) fun cdv A outer s H vs Q E hr hsp => ?_
  have hu := hr.units
  have hu0 := hu_of hr
  have hu65 := hu65_of hr
  refine ⟨_, (pss_cons (ps_if (pt_not (pt_val (pe_cal (ok_is_within (P := P) (w := w) (base := base) T) (hr.mono (by decide)) rfl (pa_cons (pv 1) (pa_cons pe_int (pa_cons (pe_gint rfl T.i_MOST_EXITS) pa_nil)))))) (pss_one ps_never) pss_nil)
      (pss_cons (ps_if (pt_not (pt_val (pe_cal (ok_are_rules (P := P) (w := w) (base := base) T) (hr.mono (by decide)) rfl (pa_cons (pv 2) (pa_cons (pv 1) pa_nil))))) (pss_one ps_never) pss_nil)
      (pss_cons (ps_fld (pv 0) (pv 1) rfl)
      (pss_cons (ps_fld (pv 0) (pe_callTy (T := "tuple") call_tuple_of (by rfl) T.f_tuple (by decide +kernel) (pa_cons (pe_lc rfl sc_Table_init.nd (pi_seq (pv 2)) (blkOk_by (own := [("each", 3)]) rfl) (fun _ _ _ _ _ => (pg_name (i := 3) sc_Table_init.nd rfl (Or.inl rfl))) (fun _ _ _ _ _ => pts_nil) (fun _ _ _ _ _ => (show PE _ _ (tCB (rTupS K) _) from (pe_callTy (T := "tuple") call_tuple_of (by rfl) T.f_tuple (by decide +kernel) (pa_cons (pe_lc rfl sc_Table_init.nd (show PI _ _ _ (iList K _) from (pi_list (pv 3))) (blkOk_by (own := [("rule", 4)]) rfl) (fun _ _ _ _ _ => (pg_name (i := 4) sc_Table_init.nd rfl (Or.inl rfl))) (fun _ _ _ _ _ => pts_nil) (fun _ _ _ _ _ => (show PE _ _ (tCB (rTupS K) _) from (pe_callTy (T := "tuple") call_tuple_of (by rfl) T.f_tuple (by decide +kernel) (pa_cons (pv 4) pa_nil))))) pa_nil))))) pa_nil)) rfl)
      (pss_cons (ps_fld (pv 0) (pe_callB (id := "len") call_len_seq (by rfl) T.f_len PySem.boot_len (pa_cons (pe_fld (pv 0) rfl) pa_nil)) rfl)
      (pss_one (ps_fld (pv 0) (pe_callB (id := "len") call_len_seq (by rfl) T.f_len PySem.boot_len (pa_cons (pe_ix ix_tup (pe_fld (pv 0) rfl) pe_int (fun _ _ => rfl)) pa_nil)) rfl))))))), ?_⟩

  obtain ⟨x, dx, us, rs, F, B, rfl, hB, eB, hx, h, ha, hQ⟩ := hsp
  cases h with
  | mk d R e n w s ok =>
    obtain ⟨v0, v1, rfl, h0, h1⟩ := alls2 ha
    obtain rfl := dp_int h0
    have g0 := (rD K d).up eB h1
    refine Evl.q_when (b := false) (Evl.et_not (a := true) (Evl.et_test (Evl.ev_is (ev_call (ga_int (Evl.ev_var rfl) (ga_int Evl.ev_c (ga_int Evl.ev_c ga_nil))) (.mk _ _ _)) (by
      rw [decide_eq_true (show (1 : Int) ≤ (e : Int) by have := ok.e1; omega), decide_eq_true (show (e : Int) ≤ 36 by have := ok.e2; omega)]
      rfl)))) (fun h => by cases h) (fun _ H1 e1 => ?_)
    have g1 := (rD K d).up e1 g0
    refine Evl.q_when (b := false) (Evl.et_not (a := true) (Evl.et_test (ev_call (ga_cons (gd_v (i := 2) rfl g1) (ga_int (Evl.ev_var rfl) ga_nil)) (.mk d R e n w s ok)))) (fun h => by cases h) (fun _ H2 e2 => ?_)
    have g2 := (rD K d).up e2 g1
    have I0 : Ini H x (He.ga K "Table") dx [] [] H2 := ⟨Ex.but (Ex.tr e1 e2), e2 _ _ (e1 _ _ hx), trivial⟩
    refine g_ini (f := "exits") (r := rD K (.int e)) I0 (gd_ev (Evl.ev_var rfl) (.int _)) (Evl.ev_var rfl) T.cl_Table T.n_Table_exits butI_D (by simp) (fun fs1 H3 I1 => ?_)
    have g3 := (rD K d).up (I1.base eB hB) h1
    have hn : R.length ≤ 90000 := by rw [ok.len]; have := ok.n2; omega
    refine g_ini (f := "rules") (r := rD K (dRulesT R)) I1 (gd_tupOf (gd_lst' (f := dRowT) (gd_lcM (fun m => rD K (dRowT m)) (gi_seq (gd_v (i := 2) rfl g3) s) hn (fun m => but_D (tup_rowT m)) (fun _ => rfl) (fun m hm y H4 e4 hy => ?_))) (.inl rfl)) (Evl.ev_var rfl) T.cl_Table T.n_Table_rules butI_D (by intro p hp; simp at hp; subst hp; exact butI_D) (fun fs2 H4 I2 => ?_)
    · exact gd_tupOf (gd_lst' (f := dRule) (gd_lcM (fun p => rD K (dRule p)) (gi_list (gd_v (i := 3) rfl hy)) (by rw [ok.row m hm]; have := ok.w2; omega) (fun p => but_D (tup_rule p)) (fun _ => rfl) (fun p hp z H5 e5 hz => gd_tupOf (gd_v (i := 4) rfl hz) (.inr rfl)))) (.inl rfl)
    have hR0 : (R.map dRowT)[0]? = some (dRowT (rowAt R 0)) := by
      rw [List.getElem?_map]
      have h0 : 0 < R.length := by rw [ok.len]; exact ok.n1
      simp [rowAt, List.getElem?_eq_getElem h0]
    have hw0 : (rowAt R 0).length = w := by
      have h0 : 0 < R.length := by rw [ok.len]; exact ok.n1
      refine ok.row _ ?_
      simp [rowAt, List.getElem?_eq_getElem h0]
    refine g_ini (f := "standings") (r := rD K (.int n)) I2 (gd_ev (v := .int n) (Evl.ev_is (ev_lenS (ds := R.map dRowT) (gd_fld (gd_v (i := 0) rfl I2.self) T.cl_Table T.n_Table_rules) (.inr rfl)) (by rw [List.length_map, ok.len])) (.int _)) (Evl.ev_var rfl) T.cl_Table T.n_Table_standings butI_D (by intro p hp; simp at hp; rcases hp with rfl | rfl <;> exact butI_D) (fun fs3 H5 I3 => ?_)
    refine g_ini' (f := "ways") (r := rD K (.int w)) I3 (gd_ev (v := .int w) (Evl.ev_is (ev_lenS (gd_ixT (i := 0) (gd_fld (r := rD K (dRulesT R)) (gd_v (i := 0) rfl I3.self) T.cl_Table T.n_Table_rules) Evl.ev_c (atI_nat (j := 0) hR0)) (.inr rfl)) (by rw [List.length_map, hw0])) (.int _)) (Evl.ev_var rfl) T.cl_Table T.n_Table_ways butI_D (by intro p hp; simp at hp; rcases hp with rfl | rfl | rfl <;> exact butI_D) (fun fs4 H6 I4 => ?_)
    exact hQ H6 I4.ex ⟨fs4, I4.at_, I4.fl⟩
end Mk
namespace Mk
open PySem PySem.Spec PyProof.Rows L2
/-! ### walks over what stands in B -/
def GW (wi : TI) (σ : L2.St) (B : Hp) {α : Type} (ms : List α) (e : α → Rel) : Prop := ∀ H1, Ex B H1 → ∀ R : It → Hp → Prop, (∀ J H2, Ex H1 H2 → Walk J ms.length (Ex B) (fun i H3 x H4 => H4 = H3 ∧ ∃ m, ms[i]? = some m ∧ (e m).on x B) → R J H2) → wi σ H1 R
def GWE (K : PySem.W.Frag) (wi : TI) (σ : L2.St) (B : Hp) {α : Type} (ms : List α) (f : α → PyData) : Prop := ∀ H1, Ex B H1 → ∀ R : It → Hp → Prop, (∀ J H2, Ex H1 H2 → Walk J ms.length (Ex B) (fun i H3 x H4 => ∃ T z, x = .ref T ∧ H3 T = none ∧ H4 = upd H3 T (.tup [.int (i : Nat), z]) ∧ ∃ m, ms[i]? = some m ∧ (rD K (f m)).on z B) → R J H2) → wi σ H1 R
section
variable {K : PySem.W.Frag} {σ : L2.St} {B H : Hp} {α : Type} {ms : List α} {f : α → PyData} {e : α → Rel} {v x : V} {d : PyData} {te ta tb : TE} {ti : TI} {D : Ends} {tu tz : TS} {r : Rel}
theorem gw_list (h : Evl.Ev te σ B v) (hd : Dp K B v (.list (ms.map f))) : GW (iList K te) σ B ms (fun m => rD K (f m)) := fun H1 e1 R q => by
  obtain ⟨a, xs, rfl, h1, h2⟩ := dp_lst hd
  have h2 := dpa_map h2
  refine h H1 e1 _ fun H2 e2 => ⟨a, rfl, ⟨xs, sql_ex (Ex.tr e1 e2) h1⟩, q _ H2 e2 ?_⟩
  have hl : ms.length = xs.length := by have := h2.len; simpa using this.symm
  rw [hl]
  exact walk_list.mono (fun H3 e3 => sql_ex e3 h1) fun i H3 x H4 hi e3 y => ⟨y.1, alls_at h2 y.2⟩
theorem gw_listR (h : Evl.Ev te σ B v) (hd : (rLst K (ms.map e)).on v B) : GW (iList K te) σ B ms e := fun H1 e1 R q => by
  obtain ⟨a, xs, rfl, h1, h2⟩ := hd
  refine h H1 e1 _ fun H2 e2 => ⟨a, rfl, ⟨xs, sql_ex (Ex.tr e1 e2) h1⟩, q _ H2 e2 ?_⟩
  have hl : ms.length = xs.length := by have := h2.len; simpa using this.symm
  rw [hl]
  exact walk_list.mono (fun H3 e3 => sql_ex e3 h1) fun i H3 x H4 hi e3 y => ⟨y.1, alls_at h2 y.2⟩
theorem gw_tup (h : Evl.Ev te σ B v) (hd : Dp K B v (.tuple (ms.map f))) : GW (iTup K te) σ B ms (fun m => rD K (f m)) := fun H1 e1 R q => by
  obtain ⟨a, xs, rfl, h1, h2⟩ := dp_tup hd
  have h2 := dpa_map h2
  refine h H1 e1 _ fun H2 e2 => ⟨a, rfl, ⟨xs, sqt_ex (Ex.tr e1 e2) h1⟩, q _ H2 e2 ?_⟩
  have hl : ms.length = xs.length := by have := h2.len; simpa using this.symm
  rw [hl]
  exact walk_tup.mono (fun H3 e3 => sqt_ex e3 h1) fun i H3 x H4 hi e3 y => ⟨y.1, alls_at h2 y.2⟩
theorem gw_rng1 {n : Nat} (h : Evl.Ev ta σ B (.int (n : Int))) (hn : n ≤ 100000) : GW (iRng1 (tCons ta tNil)) σ B (List.range n) (fun i => rV (.int (i : Int))) := fun H1 e1 R q =>
  h H1 e1 _ fun H2 e2 => ⟨(n : Int), rfl, by omega, by omega, q _ H2 e2 (by
    rw [List.length_range, Int.toNat_natCast]
    exact walk_range.mono (fun _ _ => trivial) fun i H3 x H4 hi _ y => ⟨y.1, i, by simp [hi], by rw [y.2]; show V.int _ = V.int _; rw [Int.zero_add]⟩)⟩
theorem gw_rng2 {lo n : Nat} (ha : Evl.Ev ta σ B (.int (lo : Int))) (h : Evl.Ev tb σ B (.int (n : Int))) (hl : lo ≤ 100000) (hn : n ≤ 100000) : GW (iRng2 (tCons ta (tCons tb tNil))) σ B (List.range' lo (n - lo)) (fun i => rV (.int (i : Int))) := fun H1 e1 R q =>
  ha H1 e1 _ fun H2 e2 => h H2 (Ex.tr e1 e2) _ fun H3 e3 => ⟨(lo : Int), (n : Int), rfl, by omega, q _ H3 (Ex.tr e2 e3) (by
    have e : ((n : Int) - (lo : Int)).toNat = n - lo := by omega
    rw [List.length_range', e]
    exact walk_range.mono (fun _ _ => trivial) fun i H3 x H4 hi _ y => ⟨y.1, lo + i, by rw [List.getElem?_range' (by omega)]; simp, by rw [y.2]; show V.int _ = V.int _; congr 1⟩)⟩
theorem gwe_list (h : Evl.Ev te σ B v) (hd : Dp K B v (.list (ms.map f))) : GWE K (iEnum K (tCons te tNil)) σ B ms f := fun H1 e1 R q => by
  obtain ⟨a, xs, rfl, h1, h2⟩ := dp_lst hd
  have h2 := dpa_map h2
  refine h H1 e1 _ fun H2 e2 => ⟨a, xs, rfl, sql_ex (Ex.tr e1 e2) h1, q _ H2 e2 ?_⟩
  have hl : ms.length = xs.length := by have := h2.len; simpa using this.symm
  rw [hl]
  refine walk_enum.mono (fun H3 e3 => sql_ex e3 h1) fun i H3 x H4 hi e3 y => ?_
  obtain ⟨T, u, z, h3, h4, h5, h6, h7⟩ := y
  cases h6
  exact ⟨T, z, h3, h4, h5, alls_at h2 h7⟩
theorem gwe_tup (h : Evl.Ev te σ B v) (hd : Dp K B v (.tuple (ms.map f))) : GWE K (iEnumT K (tCons te tNil)) σ B ms f := fun H1 e1 R q => by
  obtain ⟨a, xs, rfl, h1, h2⟩ := dp_tup hd
  have h2 := dpa_map h2
  refine h H1 e1 _ fun H2 e2 => ⟨a, xs, rfl, sqt_ex (Ex.tr e1 e2) h1, q _ H2 e2 ?_⟩
  have hl : ms.length = xs.length := by have := h2.len; simpa using this.symm
  rw [hl]
  refine (walk_enumT h1).mono (fun H3 e3 => sqt_ex e3 h1) fun i H3 x H4 hi e3 y => ?_
  obtain ⟨T, u, z, h3, h4, h5, h6, h7⟩ := y
  cases h6
  exact ⟨T, z, h3, h4, h5, alls_at h2 h7⟩
theorem w_for {g : TG} (h : GW ti σ B ms e) (hB : Ex B H) (Pv : Nat → L2.St → Hp → Prop) (h0 : ∀ H2, Ex H H2 → Pv 0 σ H2) (hx : ∀ i σ' H', Pv i σ' H' → Ex B H')
    (hs : ∀ i m x σ' H', ms[i]? = some m → Pv i σ' H' → (e m).on x B → g x σ' H' fun σ2 H3 => tu { D with nx := Pv (i + 1), ct := Pv (i + 1), bk := D.nx } σ2 H3) (hd : ∀ σ' H', Pv ms.length σ' H' → D.nx σ' H') : tFor ti g tu D σ H :=
  h H hB _ fun J H2 e2 w => for_it w Pv (h0 H2 e2) (fun i σ' H' _ p => hx i σ' H' p) (fun i x σ' H' H'' hi p y => by
    obtain ⟨rfl, m, hm, hr⟩ := y
    exact hs i m x σ' _ hm p hr) hd
theorem wq_for {g : TG} (h : GW ti σ B ms e) (hB : Ex B H) (Pv : Nat → L2.St → Hp → Prop) (h0 : ∀ H2, Ex H H2 → Pv 0 σ H2) (hx : ∀ i σ' H', Pv i σ' H' → Ex B H')
    (hs : ∀ i m x σ' H', ms[i]? = some m → Pv i σ' H' → (e m).on x B → g x σ' H' fun σ2 H3 => tu { D with nx := Pv (i + 1), ct := Pv (i + 1), bk := tz D } σ2 H3) (hd : ∀ σ' H', Pv ms.length σ' H' → tz D σ' H') : tSeq (tFor ti g tu) tz D σ H :=
  w_for (D := { D with nx := tz D }) h hB Pv h0 hx hs hd
/-- for a, b in enumerate(..) -/
theorem we_for {i0 j0 : Nat} (h : GWE K ti σ B ms f) (hB : Ex B H) (Pv : Nat → L2.St → Hp → Prop) (h0 : ∀ H2, Ex H H2 → Pv 0 σ H2) (hx : ∀ i σ' H', Pv i σ' H' → Ex B H')
    (hs : ∀ i m z σ' H' H'', ms[i]? = some m → Pv i σ' H' → Ex H' H'' → Dp K B z (f m) → tu { D with nx := Pv (i + 1), ct := Pv (i + 1), bk := D.nx } ((σ'.set i0 (some (.int (i : Nat)))).set j0 (some z)) H'') (hd : ∀ σ' H', Pv ms.length σ' H' → D.nx σ' H') :
    tFor ti (gTup K 2 (gCons (gName i0) (gCons (gName j0) gNil))) tu D σ H :=
  h H hB _ fun J H2 e2 w => for_it w Pv (h0 H2 e2) (fun i σ' H' _ p => hx i σ' H' p) (fun i x σ' H' H'' hi p y => by
    obtain ⟨T, z, rfl, h3, rfl, m, hm, hr⟩ := y
    exact ⟨T, _, rfl, Evl.st_of upd_same, rfl, _, _, rfl, _, _, rfl, rfl, hs i m z σ' H' _ hm p (Ex.nw h3) hr⟩) hd
theorem weq_for {i0 j0 : Nat} (h : GWE K ti σ B ms f) (hB : Ex B H) (Pv : Nat → L2.St → Hp → Prop) (h0 : ∀ H2, Ex H H2 → Pv 0 σ H2) (hx : ∀ i σ' H', Pv i σ' H' → Ex B H')
    (hs : ∀ i m z σ' H' H'', ms[i]? = some m → Pv i σ' H' → Ex H' H'' → Dp K B z (f m) → tu { D with nx := Pv (i + 1), ct := Pv (i + 1), bk := tz D } ((σ'.set i0 (some (.int (i : Nat)))).set j0 (some z)) H'') (hd : ∀ σ' H', Pv ms.length σ' H' → tz D σ' H') :
    tSeq (tFor ti (gTup K 2 (gCons (gName i0) (gCons (gName j0) gNil))) tu) tz D σ H := we_for (D := { D with nx := tz D }) h hB Pv h0 hx hs hd
/-- the iterable read in the heap as it is, what it holds standing in B -/
def GC (wi : TI) (σ : L2.St) (Hc B : Hp) {α : Type} (ms : List α) (e : α → Rel) : Prop := ∀ H1, Ex Hc H1 → ∀ R : It → Hp → Prop, (∀ J H2, Ex H1 H2 → Walk J ms.length (Ex B) (fun i H3 x H4 => H4 = H3 ∧ ∃ m, ms[i]? = some m ∧ (e m).on x B) → R J H2) → wi σ H1 R
theorem gc_tup {Hc : Hp} (h : Evl.Ev te σ Hc v) (hB : Ex B Hc) (hd : Dp K B v (.tuple (ms.map f))) : GC (iTup K te) σ Hc B ms (fun m => rD K (f m)) := fun H1 e1 R q => by
  obtain ⟨a, xs, rfl, h1, h2⟩ := dp_tup hd
  have h2 := dpa_map h2
  refine h H1 e1 _ fun H2 e2 => ⟨a, rfl, ⟨xs, sqt_ex (Ex.tr hB (Ex.tr e1 e2)) h1⟩, q _ H2 e2 ?_⟩
  have hl : ms.length = xs.length := by have := h2.len; simpa using this.symm
  rw [hl]
  exact walk_tup.mono (fun H3 e3 => sqt_ex e3 h1) fun i H3 x H4 hi e3 y => ⟨y.1, alls_at h2 y.2⟩
theorem gc_list {Hc : Hp} (h : Evl.Ev te σ Hc v) (hB : Ex B Hc) (hd : Dp K B v (.list (ms.map f))) : GC (iList K te) σ Hc B ms (fun m => rD K (f m)) := fun H1 e1 R q => by
  obtain ⟨a, xs, rfl, h1, h2⟩ := dp_lst hd
  have h2 := dpa_map h2
  refine h H1 e1 _ fun H2 e2 => ⟨a, rfl, ⟨xs, sql_ex (Ex.tr hB (Ex.tr e1 e2)) h1⟩, q _ H2 e2 ?_⟩
  have hl : ms.length = xs.length := by have := h2.len; simpa using this.symm
  rw [hl]
  exact walk_list.mono (fun H3 e3 => sql_ex e3 h1) fun i H3 x H4 hi e3 y => ⟨y.1, alls_at h2 y.2⟩
theorem gc_rng1 {Hc : Hp} {n : Nat} (h : Evl.Ev ta σ Hc (.int (n : Int))) (hn : n ≤ 100000) : GC (iRng1 (tCons ta tNil)) σ Hc B (List.range n) (fun i => rV (.int (i : Int))) := fun H1 e1 R q =>
  h H1 e1 _ fun H2 e2 => ⟨(n : Int), rfl, by omega, by omega, q _ H2 e2 (by
    rw [List.length_range, Int.toNat_natCast]
    exact walk_range.mono (fun _ _ => trivial) fun i H3 x H4 hi _ y => ⟨y.1, i, by simp [hi], by rw [y.2]; show V.int _ = V.int _; rw [Int.zero_add]⟩)⟩
theorem c_for {g : TG} (h : GC ti σ H B ms e) (Pv : Nat → L2.St → Hp → Prop) (h0 : ∀ H2, Ex H H2 → Pv 0 σ H2) (hx : ∀ i σ' H', Pv i σ' H' → Ex B H')
    (hs : ∀ i m x σ' H', ms[i]? = some m → Pv i σ' H' → (e m).on x B → g x σ' H' fun σ2 H3 => tu { D with nx := Pv (i + 1), ct := Pv (i + 1), bk := D.nx } σ2 H3) (hd : ∀ σ' H', Pv ms.length σ' H' → D.nx σ' H') : tFor ti g tu D σ H :=
  h H Ex.rfl' _ fun J H2 e2 w => for_it w Pv (h0 H2 e2) (fun i σ' H' _ p => hx i σ' H' p) (fun i x σ' H' H'' hi p y => by
    obtain ⟨rfl, m, hm, hr⟩ := y
    exact hs i m x σ' _ hm p hr) hd
theorem cq_for {g : TG} (h : GC ti σ H B ms e) (Pv : Nat → L2.St → Hp → Prop) (h0 : ∀ H2, Ex H H2 → Pv 0 σ H2) (hx : ∀ i σ' H', Pv i σ' H' → Ex B H')
    (hs : ∀ i m x σ' H', ms[i]? = some m → Pv i σ' H' → (e m).on x B → g x σ' H' fun σ2 H3 => tu { D with nx := Pv (i + 1), ct := Pv (i + 1), bk := tz D } σ2 H3) (hd : ∀ σ' H', Pv ms.length σ' H' → tz D σ' H') : tSeq (tFor ti g tu) tz D σ H :=
  c_for (D := { D with nx := tz D }) h Pv h0 hx hs hd
/-- a field of an instance that stands -/
theorem fld_at {i : Nat} {C : Addr} {F : List (Str × Rel)} {g : Str} (hx : σ[i]? = some (some x)) (h : (rIns C F).on x B) (c : Cls K C) (n : NoAttr K C g) (e : F.lookup g = some r := by rfl) : ∃ u, r.on u B ∧ Evl.Ev (tFld K (tVar i) g) σ B u := by
  obtain ⟨a, dx, fs, rfl, h1, h2⟩ := h
  obtain ⟨u, h3, h4⟩ := h2.look e
  exact ⟨u, h4, fun H1 e1 Q q => ⟨.ref a, hx, a, C, dx, fs, u, rfl, e1 _ _ h1, c, n, h3, q H1 Ex.rfl'⟩⟩
end
/-! ### dicts with tuple keys -/
section
variable {P : Program} {w : World} {K : PySem.W.Frag} {σ : L2.St} {H : Hp} {td ty tv tx : TE} {d a : Addr} {kvs : List (NestedKey × V)} {k : NestedKey} {v : V} {D : Ends} {tz : TS}
theorem et_nnot (hy : Evl.Ev ty σ H (.ref a)) (hd : Evl.Ev td σ H (.ref d)) (h : ND P w K H d kvs) (hk : NK K H k a) : Evl.EvT (tB (tNNot P w K ty td)) σ H (!(valV kvs k).isSome) := fun H1 e Q q =>
  hy H1 e _ fun H2 e2 => hd H2 (Ex.tr e e2) _ fun H3 e3 => ⟨d, a, k, kvs, rfl, rfl, h.ex (Ex.tr e (Ex.tr e2 e3)), hk.ex (Ex.tr e (Ex.tr e2 e3)), _, rfl, q H3 (Ex.tr e2 e3)⟩
theorem ev_nget (hd : Evl.Ev td σ H (.ref d)) (hy : Evl.Ev ty σ H (.ref a)) (h : ND P w K H d kvs) (hk : NK K H k a) (hv : valV kvs k = some v) : Evl.Ev (tNGet P w K td ty) σ H v := fun H1 e Q q =>
  hd H1 e _ fun H2 e2 => hy H2 (Ex.tr e e2) _ fun H3 e3 => ⟨d, a, k, kvs, v, rfl, rfl, h.ex (Ex.tr e (Ex.tr e2 e3)), hk.ex (Ex.tr e (Ex.tr e2 e3)), hv, q H3 (Ex.tr e2 e3)⟩
/-- the key a tuple made on the way -/
theorem ev_ngetG (hd : Evl.Ev td σ H (.ref d)) (hy : GD ty σ H (rD K (kd k))) (h : ND P w K H d kvs) (h8 : k.depth ≤ 8) (hr : ∃ ks, k = .tup ks) (hv : valV kvs k = some v) : Evl.Ev (tNGet P w K td ty) σ H v := fun H1 e Q q =>
  hd H1 e _ fun H2 e2 => hy H2 (Ex.tr e e2) _ fun y H3 e3 hyd => by
    obtain ⟨ks, rfl⟩ := hr
    obtain ⟨a, xs, rfl, h1, h2⟩ := dp_tup (show Dp K H3 y (.tuple (kds ks)) from hyd)
    exact ⟨d, a, _, kvs, v, rfl, rfl, h.ex (Ex.tr e (Ex.tr e2 e3)), ⟨h8, hyd⟩, hv, q H3 (Ex.tr e2 e3)⟩
theorem ev_lenNd (hd : Evl.Ev td σ H (.ref d)) (h : ND P w K H d kvs) : Evl.Ev (tCB (fun xs H Q => ∃ d kvs, xs = [V.ref d] ∧ ND P w K H d kvs ∧ Q (.int kvs.length) H) (tCons td tNil)) σ H (.int (kvs.length : Int)) := fun H1 e Q q =>
  hd H1 e _ fun H2 e2 => ⟨d, kvs, rfl, h.ex (Ex.tr e e2), q H2 e2⟩
theorem ev_nget2 (hd : Evl.Ev td σ H (.ref d)) (hy : Evl.Ev ty σ H (.ref a)) (hx : Evl.Ev tx σ H v) (h : ND P w K H d kvs) (hk : NK K H k a) : Evl.Ev (tNGet2 P w K td ty tx) σ H ((valV kvs k).getD v) := fun H1 e Q q =>
  hd H1 e _ fun H2 e2 => ⟨d, kvs, rfl, h.ex (Ex.tr e e2), hy H2 (Ex.tr e e2) _ fun H3 e3 => hx H3 (Ex.tr e (Ex.tr e2 e3)) _ fun H4 e4 => ⟨a, k, kvs, rfl, h.ex (Ex.tr e (Ex.tr e2 (Ex.tr e3 e4))), hk.ex (Ex.tr e (Ex.tr e2 (Ex.tr e3 e4))), q H4 (Ex.tr e2 (Ex.tr e3 e4))⟩⟩
/-- d[k] = v -/
theorem s_nput (hv : Evl.Ev tv σ H v) (hd : Evl.Ev td σ H (.ref d)) (hy : Evl.Ev ty σ H (.ref a)) (h : ND P w K H d kvs) (hk : NK K H k a) (hz : kvs.length < 100000) (q : ∀ H1 o, Ex H H1 → ND P w K (upd H1 d o) d (putK kvs k v) → D.nx σ (upd H1 d o)) : sNPut P w K td ty tv D σ H :=
  hv H Ex.rfl' _ fun H1 e1 => hd H1 e1 _ fun H2 e2 => hy H2 (Ex.tr e1 e2) _ fun H3 e3 => ⟨d, a, k, kvs, rfl, rfl, h.ex (Ex.tr e1 (Ex.tr e2 e3)), hk.ex (Ex.tr e1 (Ex.tr e2 e3)), Evl.sz_lt hz, fun o nd => q H3 o (Ex.tr e1 (Ex.tr e2 e3)) nd⟩
theorem q_nput (hv : Evl.Ev tv σ H v) (hd : Evl.Ev td σ H (.ref d)) (hy : Evl.Ev ty σ H (.ref a)) (h : ND P w K H d kvs) (hk : NK K H k a) (hz : kvs.length < 100000) (q : ∀ H1 o, Ex H H1 → ND P w K (upd H1 d o) d (putK kvs k v) → tz D σ (upd H1 d o)) : tSeq (sNPut P w K td ty tv) tz D σ H :=
  s_nput (D := { D with nx := tz D }) hv hd hy h hk hz q
end
/-! ### dicts with plain keys -/
section
variable {σ : L2.St} {H : Hp} {td ty tv : TE} {d : Addr} {kvs : List (Key × V)} {k : Key} {v : V} {D : Ends} {tz : TS}
theorem et_dnot (hy : Evl.Ev ty σ H (kV k)) (hd : Evl.Ev td σ H (.ref d)) (h : H d = some (.dK kvs)) : Evl.EvT (tB (tDNotIn ty td)) σ H (!(valV kvs k).isSome) := fun H1 e Q q =>
  hy H1 e _ fun H2 e2 => hd H2 (Ex.tr e e2) _ fun H3 e3 => ⟨d, _, rfl, DGet.k ((Ex.tr e (Ex.tr e2 e3)) _ _ h), _, rfl, q H3 (Ex.tr e2 e3)⟩
theorem ev_dget (hd : Evl.Ev td σ H (.ref d)) (hy : Evl.Ev ty σ H (kV k)) (h : H d = some (.dK kvs)) (hv : valV kvs k = some v) : Evl.Ev (tDGet td ty) σ H v := fun H1 e Q q =>
  hd H1 e _ fun H2 e2 => hy H2 (Ex.tr e e2) _ fun H3 e3 => ⟨d, v, rfl, hv ▸ DGet.k ((Ex.tr e (Ex.tr e2 e3)) _ _ h), q H3 (Ex.tr e2 e3)⟩
theorem s_dput (hv : Evl.Ev tv σ H v) (hd : Evl.Ev td σ H (.ref d)) (hy : Evl.Ev ty σ H (kV k)) (h : H d = some (.dK kvs)) (hz : kvs.length < 100000) (q : ∀ H1, Ex H H1 → D.nx σ (upd H1 d (.dK (putK kvs k v)))) : sDPut td ty tv D σ H :=
  hv H Ex.rfl' _ fun H1 e1 => hd H1 e1 _ fun H2 e2 => hy H2 (Ex.tr e1 e2) _ fun H3 e3 => ⟨d, _, rfl, DPut.k ((Ex.tr e1 (Ex.tr e2 e3)) _ _ h) (Evl.sz_lt hz), q H3 (Ex.tr e1 (Ex.tr e2 e3))⟩
theorem q_dput (hv : Evl.Ev tv σ H v) (hd : Evl.Ev td σ H (.ref d)) (hy : Evl.Ev ty σ H (kV k)) (h : H d = some (.dK kvs)) (hz : kvs.length < 100000) (q : ∀ H1, Ex H H1 → tz D σ (upd H1 d (.dK (putK kvs k v)))) : tSeq (sDPut td ty tv) tz D σ H :=
  s_dput (D := { D with nx := tz D }) hv hd hy h hz q
end
/-! ### keys numbered as they come -/
section
variable {κ : Type} [DecidableEq κ]
def numK (U : List κ) : List (κ × V) := U.zipIdx.map fun p => (p.1, .int (p.2 : Nat))
theorem numK_len (U : List κ) : (numK U).length = U.length := by simp [numK]
theorem valV_map {α : Type} (f : α → κ) (g : α → V) (k : κ) : ∀ l : List α, valV (l.map fun a => (f a, g a)) k = (l.find? fun a => decide (f a = k)).map g
  | [] => rfl
  | a :: l => by
    unfold valV
    rw [List.map_cons, List.find?_cons, List.find?_cons]
    cases h : decide (f a = k) with
    | true => rfl
    | false => exact valV_map f g k l
theorem find_zip (k : κ) : ∀ (U : List κ) (n : Nat), ((U.zipIdx n).find? fun p => decide (p.1 = k)) = if k ∈ U then some (k, n + U.idxOf k) else none
  | [], n => by simp
  | u :: U, n => by
    rw [List.zipIdx_cons, List.find?_cons]
    by_cases h : u = k
    · subst h
      simp
    · have h2 : k ≠ u := fun z => h z.symm
      rw [show decide ((u, n).1 = k) = false from decide_eq_false h]
      show ((U.zipIdx (n + 1)).find? fun p => decide (p.1 = k)) = _
      rw [find_zip k U (n + 1)]
      by_cases hk : k ∈ U
      · rw [if_pos hk, if_pos (List.mem_cons_of_mem _ hk)]
        have e : (u :: U).idxOf k = U.idxOf k + 1 := by
          rw [List.idxOf_cons, show (u == k) = false by simpa using h]
          rfl
        rw [e]
        congr 2
        omega
      · rw [if_neg hk, if_neg (by simp [hk, h2])]
theorem valV_numK (U : List κ) (k : κ) : valV (numK U) k = if k ∈ U then some (.int ((U.idxOf k : Nat) : Int)) else none := by
  unfold numK
  rw [valV_map (fun p : κ × Nat => p.1) (fun p => V.int (p.2 : Nat)), find_zip]
  split
  · simp
  · rfl
theorem putK_numK {U : List κ} {k : κ} (h : ¬ k ∈ U) : putK (numK U) k (.int (U.length : Nat)) = numK (addU U k) := by
  have hv : ((numK U).any fun kv => decide (kv.1 = k)) = false := by
    rw [List.any_eq_false]
    intro kv hkv
    unfold numK at hkv
    obtain ⟨p, hp, rfl⟩ := List.mem_map.mp hkv
    have : p.1 ∈ U := (List.mem_zipIdx' hp).2 ▸ List.getElem_mem _
    have hne : ¬ p.1 = k := fun z => h (by rw [← z]; exact this)
    simpa using hne
  unfold putK
  rw [if_neg (by rw [hv]; decide), addU_out h]
  unfold numK
  rw [List.zipIdx_append, List.map_append]
  simp
theorem putK_same {kvs : List (κ × V)} {k : κ} {v : V} (hn : (kvs.map (·.1)).Nodup) (h : valV kvs k = some v) : putK kvs k v = kvs := by
  have hv : (kvs.any fun kv => decide (kv.1 = k)) = true := by
    unfold valV at h
    cases q : kvs.find? fun kv => decide (kv.1 = k) with
    | none => rw [q] at h; cases h
    | some p => exact List.any_eq_true.mpr ⟨p, List.mem_of_find?_eq_some q, by have := List.find?_some q; exact this⟩
  unfold putK
  rw [if_pos hv]
  have key : ∀ l : List (κ × V), (l.map (·.1)).Nodup → valV l k = some v → l.map (fun kv => if kv.1 = k then (kv.1, v) else kv) = l := by
    intro l
    induction l with
    | nil => intro _ _; rfl
    | cons p l ih =>
      intro hn h
      rw [List.map_cons] at hn ⊢
      have hn' := List.nodup_cons.mp hn
      by_cases hp : p.1 = k
      · have e : p.2 = v := by
          unfold valV at h
          rw [List.find?_cons, show decide (p.1 = k) = true from decide_eq_true hp] at h
          exact Option.some.inj h
        rw [if_pos hp, ← e]
        congr 1
        have hne : ∀ q ∈ l, (if q.1 = k then (q.1, p.2) else q) = q := fun q hq => by
          refine if_neg fun z => hn'.1 ?_
          rw [hp, ← z]
          exact List.mem_map_of_mem hq
        rw [List.map_congr_left hne, List.map_id']
      · rw [if_neg hp]
        congr 1
        refine ih hn'.2 ?_
        unfold valV at h ⊢
        rw [List.find?_cons, show decide (p.1 = k) = false from decide_eq_false hp] at h
        exact h
  exact key kvs hn h
theorem numK_keys (U : List κ) : (numK U).map (·.1) = U := by
  unfold numK
  rw [List.map_map]
  exact List.zipIdx_map_fst 0 U
theorem putK_get {U : List κ} (hn : U.Nodup) (k : κ) : putK (numK U) k ((valV (numK U) k).getD (.int ((numK U).length : Nat))) = numK (addU U k) := by
  rw [valV_numK, numK_len]
  by_cases h : k ∈ U
  · rw [if_pos h, addU_in h]
    exact putK_same (by rw [numK_keys]; exact hn) (by rw [valV_numK, if_pos h]; rfl)
  · rw [if_neg h]
    exact putK_numK h
end
end Mk
namespace Mk
open PySem PySem.Spec PyProof.Rows L2

/-! ### numbered -/
abbrev N_numbered : List Str := ["rows", "known", "found", "row"]
theorem sc_numbered : FnScope N_numbered ["rows"] (defScope s_numbered) := ⟨rfl, rfl, rfl, by decide +kernel, rfl, by decide +kernel, by decide +kernel⟩
inductive rel_numbered (K : PySem.W.Frag) : List Rel → Rel → Prop
  | mk (rows : List NestedKey) (h : ∀ k ∈ rows, k.depth ≤ 8 ∧ ∃ ks, k = .tup ks) (hl : rows.length ≤ 1000) : rel_numbered K [rD K (.list (rows.map kd))] (rD K (.list ((numb rows).map fun i => .int (i : Nat))))
theorem par_dl {P : Program} {w : World} {K : PySem.W.Frag} {σ : L2.St} {H : Hp} {D : Ends} {tz : TS} {i j : Nat} (k : ∀ d p H1, H d = none → H p = none → d ≠ p → Ex H H1 → ND P w K H1 d [] → H1 p = some (.lst []) → tz D ((σ.set i (some (.ref d))).set j (some (.ref p))) H1) :
    tSeq (tPar i j (tCons (tNNew P w K) (tCons (tLst tNil) tNil))) tz D σ H := fun d hd o hnd => ⟨Nat.zero_le _, fun p hp => ⟨_, _, rfl, by
  have hne : d ≠ p := fun z => by rw [z] at hp; rw [upd_same] at hp; cases hp
  have hp2 : H p = none := by rw [upd_ne (Ne.symm hne)] at hp; exact hp
  exact k d p _ hd hp2 hne (Ex.tr (Ex.nw hd) (Ex.nw hp)) (hnd.ex (Ex.nw hp)) upd_same⟩⟩
theorem uniq_all_take {α : Type} [DecidableEq α] {l : List α} {i : Nat} {x : α} (h : x ∈ l.take i) : (uniq (l.take i)).idxOf x = ixU l x := by
  obtain ⟨m, e⟩ := uniq_take l i
  unfold ixU
  rw [e, idxOf_append_in (mem_uniq.mpr h)]
theorem ints_but {H H' : Hp} {K : PySem.W.Frag} {ns : List Nat} {l : Addr} (h : H l = some (.lst (ns.map fun n => .int (n : Nat)))) : (rD K (.list (ns.map fun n => .int (n : Nat)))).on (.ref l) H := by
  refine .lst (Evl.sq_of h) ?_
  have key : ∀ ns : List Nat, DpAll K H (ns.map fun n => V.int (n : Nat)) (ns.map fun n => PyData.int (n : Nat)) := by
    intro ns
    induction ns with
    | nil => exact .nil
    | cons n ns ih => exact .cons (.int _) ih
  exact key ns
theorem ok_numbered {P : Program} {w : World} {K : PySem.W.Frag} {mg : Str → Option Value} {base : Heap} (T : Txt K mg) : Cal P w K mg base "numbered" 1 ["rows"] [] (SpR (rel_numbered K)) := by
  refine cal_of (st := s_numbered) T.g_numbered (T.d.def_ 10 rfl) (fun _ _ _ _ _ _ us hl => match us, hl with | [_], _ => rfl) sc_numbered (fun vs H Q E hsp => by obtain ⟨rs, r, h, ha, _⟩ := hsp; rw [ha.len]; cases h <;> rfl) fun cdv A outer s H vs Q E hr hsp => ?_
  have hu := hr.units
  have hu0 := hu_of hr
  have hu65 := hu65_of hr
  refine ⟨_, (pss_cons (ps_par (i := 1) (j := 2) (by rfl) sc_numbered.nd rfl rfl (by decide) rfl rfl (pa_cons pe_nnew (pa_cons (pe_lst pa_nil) pa_nil)) (by rfl))
      (pss_cons (ps_for PassesOwn.never rfl (pi_list (pv 0)) (pg_name (i := 3) sc_numbered.nd rfl (Or.inl rfl))
      (pss_cons (ps_if (pt_cmp (pc_nnotin hu (pv 3) (pv 1)) rfl) (pss_one (ps_nput hu (pv 1) (pv 3) (pe_callB (id := "len") call_lenN (by rfl) T.f_len (by decide +kernel) (pa_cons (pv 1) pa_nil)) rfl)) pss_nil)
      (pss_one (ps_expr (pe_bm PySem.F.plainAttrs_list PySem.F.slot_list_append PySem.F.type_list_append mt_append (pv 2) (pa_cons (pe_nget hu (pv 1) (pv 3) (fun _ _ => rfl)) pa_nil))))))
      (pss_one (ps_ret (pv 2))))), ?_⟩

  obtain ⟨rs, r, h, ha, hQ⟩ := hsp
  cases h with
  | mk rows hk hl =>
    obtain ⟨v0, rfl, h0⟩ := alls1 ha
    refine par_dl (fun d l H1 hd hl' hne e1 nd0 hl0 => ?_)
    refine wq_for (B := H) (ms := rows) (e := fun k => rD K (kd k)) (gw_list (v := v0) (Evl.ev_var rfl) h0) e1 (fun i σ' H' => ∃ x, σ' = [some v0, some (.ref d), some (.ref l), x] ∧ Ex H H' ∧ ND P w K H' d (numK (uniq (rows.take i))) ∧ H' l = some (.lst (((rows.take i).map (ixU rows)).map fun n => .int (n : Nat)))) (fun H2 e2 => ⟨_, rfl, Ex.tr e1 e2, nd0.ex e2, e2 _ _ hl0⟩) (fun i σ' H' p => by obtain ⟨x, _, e, _⟩ := p; exact e) ?_ ?_
    · rintro i m x σ' H2 hm ⟨y, rfl, e2, nd, hl2⟩ hx
      have hmem := List.mem_of_getElem? hm
      obtain ⟨h8, ks, rfl⟩ := hk m hmem
      obtain ⟨a, xs, rfl, hs, hall⟩ := dp_tup (show Dp K H x (.tuple (kds ks)) from hx)
      have nk : NK K H (.tup ks) a := ⟨h8, hx⟩
      have hlen : i < rows.length := (List.getElem?_eq_some_iff.mp hm).1
      have hU : (uniq (rows.take i)).length ≤ 1000 := by
        have := uniq_len (rows.take i)
        rw [List.length_take] at this
        omega
      have hmi : NestedKey.tup ks ∈ rows.take (i + 1) := by
        rw [List.take_succ, hm]
        simp
      have key : ∀ (D' : Ends) (H3 : Hp), (∀ σ5 H5, (∃ x, σ5 = [some v0, some (.ref d), some (.ref l), x] ∧ Ex H H5 ∧ ND P w K H5 d (numK (uniq (rows.take (i + 1)))) ∧ H5 l = some (.lst (((rows.take (i + 1)).map (ixU rows)).map fun n => .int (n : Nat)))) → D'.nx σ5 H5) → Ex H H3 →
          ND P w K H3 d (numK (uniq (rows.take (i + 1)))) → H3 l = some (.lst (((rows.take i).map (ixU rows)).map fun n => .int (n : Nat))) →
          tDrop (tBM K "list" rAppend (tVar 2) (tCons (tNGet P w K (tVar 1) (tVar 3)) tNil)) D' [some v0, some (.ref d), some (.ref l), some (.ref a)] H3 := by
        intro D' H3 hn e3 nd3 hl3
        refine Evl.s_app hl3 (Evl.ev_var rfl) (ev_nget (v := .int (ixU rows (.tup ks) : Nat)) (Evl.ev_var rfl) (Evl.ev_var rfl) nd3 (nk.ex e3) ?_) (by simp; omega) (fun H4 e4 => hn _ _ ⟨_, rfl, ?_, ?_, ?_⟩)
        · rw [valV_numK, if_pos (mem_uniq.mpr hmi), uniq_all_take hmi]
        · exact Evl.Ex.mut (Ex.tr e3 e4) hl'
        · exact (nd3.ex e4).but (ExB.upd l H4 _) (noT_lst (e4 _ _ hl3)) hne
        · rw [upd_same, List.take_succ, hm]
          simp
      refine Evl.q_if (b := !(valV (numK (uniq (rows.take i))) (.tup ks)).isSome) (et_nnot (Evl.ev_var rfl) (Evl.ev_var rfl) nd (nk.ex e2)) (fun hb H3 e3 => ?_) (fun hb H3 e3 => ?_)
      · have hni : ¬ NestedKey.tup ks ∈ uniq (rows.take i) := fun z => by
          rw [valV_numK, if_pos z] at hb
          cases hb
        refine s_nput (v := .int ((uniq (rows.take i)).length : Nat)) (Evl.ev_is (ev_lenNd (Evl.ev_var rfl) (nd.ex e3)) (by rw [numK_len])) (Evl.ev_var rfl) (Evl.ev_var rfl) (nd.ex e3) (nk.ex (Ex.tr e2 e3)) (by rw [numK_len]; omega) (fun H4 o e4 nd4 => ?_)
        rw [putK_numK hni] at nd4
        refine key _ _ (fun _ _ z => z) (Evl.Ex.mut (Ex.tr e2 (Ex.tr e3 e4)) hd) ?_ ?_
        · rw [uniq_take_succ hm]
          exact nd4
        · rw [upd_ne (Ne.symm hne)]
          exact e4 _ _ (e3 _ _ hl2)
      · have hni : NestedKey.tup ks ∈ uniq (rows.take i) := by
          by_cases z : NestedKey.tup ks ∈ uniq (rows.take i)
          · exact z
          · rw [valV_numK, if_neg z] at hb
            cases hb
        refine key _ _ (fun _ _ z => z) (Ex.tr e2 e3) ?_ (e3 _ _ hl2)
        rw [uniq_take_succ hm, addU_in hni]
        exact nd.ex e3
    · rintro σ' H' ⟨x, rfl, e2, nd, hl2⟩
      rw [List.take_length] at hl2
      exact Evl.s_ret (Evl.ev_var rfl) (fun H3 e3 => hQ _ _ (Ex.tr e2 e3) ((rD K _).up e3 (ints_but (H' := H') hl2)))
/-! ### lots_of -/
abbrev N_lots_of : List Str := ["rules", "lots", "rows", "at", "each", "out", "later", "finer"]
theorem sc_lots_of : FnScope N_lots_of ["rules"] (defScope s_lots_of) := ⟨rfl, rfl, rfl, by decide +kernel, rfl, by decide +kernel, by decide +kernel⟩
def lotsD (l : List Nat) : PyData := .list (l.map fun n => .int (n : Nat))
inductive rel_lots_of (K : PySem.W.Frag) : List Rel → Rel → Prop
  | mk (R : Rules) (e n w : Nat) (ok : Small e n w R) : rel_lots_of K [rD K (dRulesT R)] (rD K (lotsD (lotsF R)))
def ruleK (q : Rule) : NestedKey := .tup [.num q.1, .num q.2]
def rowK (p : Nat × List Rule) : NestedKey := .tup (.num p.1 :: p.2.map ruleK)
def dRow (p : Nat × List Rule) : PyData := .tuple (.int p.1 :: p.2.map dRule)
theorem kds_map {α : Type} {f : α → NestedKey} {g : α → PyData} (h : ∀ a, kd (f a) = g a) : ∀ l : List α, kds (l.map f) = l.map g
  | [] => rfl
  | a :: l => by
    show kd (f a) :: kds (l.map f) = _
    rw [h a, kds_map h l]
    rfl
theorem kd_rule (q : Rule) : kd (ruleK q) = dRule q := rfl
theorem kd_row (p : Nat × List Rule) : kd (rowK p) = dRow p := by
  show PyData.tuple (PyData.int p.1 :: kds (p.2.map ruleK)) = _
  rw [kds_map kd_rule]
  rfl
theorem rule_depth (q : Rule) : (ruleK q).depth ≤ 3 := by
  simp [ruleK, NestedKey.depth, NestedKey.depthAll]
theorem depth_all {α : Type} {f : α → NestedKey} {m : Nat} (h : ∀ a, (f a).depth ≤ m) : ∀ l : List α, NestedKey.depthAll (l.map f) ≤ m
  | [] => by simp [NestedKey.depthAll]
  | a :: l => by
    have := h a
    have := depth_all h l
    simp only [List.map_cons, NestedKey.depthAll]
    omega
theorem row_depth (p : Nat × List Rule) : (rowK p).depth ≤ 8 := by
  have := depth_all rule_depth p.2
  simp only [rowK, NestedKey.depth, NestedKey.depthAll]
  omega
theorem ruleK_inj {a b : Rule} (h : ruleK a = ruleK b) : a = b := by
  obtain ⟨a1, a2⟩ := a
  obtain ⟨b1, b2⟩ := b
  unfold ruleK at h
  injection h with h
  injection h with h1 h2
  injection h2 with h2 _
  injection h1 with h1
  injection h2 with h2
  simp only at h1 h2
  rw [Int.ofNat_inj.mp h1, Int.ofNat_inj.mp h2]
theorem map_inj {α β : Type} {f : α → β} (h : ∀ a b, f a = f b → a = b) : ∀ {l m : List α}, l.map f = m.map f → l = m
  | [], [], _ => rfl
  | [], _ :: _, e => by cases e
  | _ :: _, [], e => by cases e
  | a :: l, b :: m, e => by
    injection e with e1 e2
    rw [h a b e1, map_inj h e2]
theorem rowK_inj {a b : Nat × List Rule} (h : rowK a = rowK b) : a = b := by
  obtain ⟨a1, a2⟩ := a
  obtain ⟨b1, b2⟩ := b
  unfold rowK at h
  injection h with h
  injection h with h1 h2
  injection h1 with h1
  simp only at h1 h2
  rw [Int.ofNat_inj.mp h1, map_inj (fun _ _ => ruleK_inj) h2]
theorem zipIdx_rows {α : Type} (R : Rules) (g : List Rule × Nat → α) : R.zipIdx.map g = (List.range R.length).map fun i => g (rowAt R i, i) := by
  refine List.ext_getElem (by simp) fun i h1 h2 => ?_
  have h3 : i < R.length := by simpa using h1
  simp [rowAt, List.getElem?_eq_getElem h3]
theorem tup_row (p : Nat × List Rule) : tupOnly (dRow p) = true := by
  show (true && tupOnlyAll (p.2.map dRule)) = true
  rw [tup_all tup_rule]
  rfl
section
variable {K : PySem.W.Frag} {σ : L2.St} {H : Hp} {te tb : TE} {ds : List PyData}
theorem ga_star (h : GD te σ H (rD K (.list ds))) : GA (StX.tStar K te tNil) σ H (ds.map (rD K)) := fun H1 e Q q => h H1 e _ fun x H2 e2 hx => by
  obtain ⟨a, xs, rfl, h1, h2⟩ := dp_lst hx
  exact ⟨a, xs, rfl, .inr h1, by
    show Q (xs ++ []) H2
    rw [List.append_nil]
    exact q xs H2 e2 (Alls.of_data h2)⟩
theorem flat_rep (n : Nat) (v : V) : (List.replicate n [v]).flatten = List.replicate n v := by
  induction n with
  | zero => rfl
  | succ n ih => rw [List.replicate_succ, List.flatten_cons, ih, List.replicate_succ]; rfl
theorem dpa_rep {v : V} {d : PyData} (h : Dp K H v d) : ∀ n : Nat, DpAll K H (List.replicate n v) (List.replicate n d)
  | 0 => .nil
  | n + 1 => .cons h (dpa_rep h n)
theorem gd_rep {n : Nat} (h : Evl.Ev tb σ H (.int (n : Int))) (hn : n ≤ 100000) : GD (tOp rRep (tLst (tCons (tC (.int 0)) tNil)) tb) σ H (rD K (.list (List.replicate n (.int 0)))) := fun H1 e Q q => ⟨by show 1 ≤ sizeLine; decide, fun p hp => h _ (Ex.tr e (Ex.nw hp)) _ fun H2 e2 =>
  ⟨p, n, _, rfl, rfl, e2 _ _ upd_same, by omega, by omega, by simp; exact Evl.sz_of hn, fun l hl => q _ _ (Ex.tr (Ex.nw hp) (Ex.tr e2 (Ex.nw hl))) (.lst (Evl.sq_of upd_same) (by rw [Int.toNat_natCast, flat_rep]; exact dpa_rep (.int 0) n))⟩⟩
theorem ints_eq : ∀ {l : List Nat} {xs : List V}, DpAll K H xs (l.map fun n => .int (n : Nat)) → xs = (l.map fun n => ((n : Nat) : Int)).map V.int
  | [], _, h => by cases h; rfl
  | n :: l, _, h => by
    cases h with
    | cons q1 q2 =>
      rw [dp_int q1, ints_eq q2]
      rfl
theorem ev_max {l : List Nat} {m : Nat} (h : GD te σ H (rD K (lotsD l))) (hm : m ∈ l) (hx : ∀ k ∈ l, k ≤ m) : Evl.Ev (tCB (rMax K) (tCons te tNil)) σ H (.int (m : Int)) := fun H1 e Q q => h H1 e _ fun x H2 e2 hxd => by
  obtain ⟨a, xs, rfl, h1, h2⟩ := dp_lst hxd
  have e3 := ints_eq h2
  subst e3
  refine ⟨a, _, rfl, h1, by rw [List.length_map]; exact List.length_pos_of_mem hm, fun m' hm' hx' => ?_⟩
  obtain ⟨k, hk, rfl⟩ := List.mem_map.mp hm'
  have := hx k hk
  have := hx' (m : Int) (List.mem_map.mpr ⟨m, hm, rfl⟩)
  rw [show k = m by omega]
  exact q H2 e2
end
theorem ex_max : ∀ {l : List Nat}, l ≠ [] → ∃ m, m ∈ l ∧ ∀ k ∈ l, k ≤ m
  | [a], _ => ⟨a, by simp, by simp⟩
  | a :: b :: l, _ => by
    obtain ⟨m, h1, h2⟩ := ex_max (l := b :: l) (by simp)
    by_cases h : a ≤ m
    · exact ⟨m, List.mem_cons_of_mem _ h1, fun k hk => by
        rcases List.mem_cons.mp hk with rfl | hk
        · exact h
        · exact h2 k hk⟩
    · exact ⟨a, List.mem_cons_self, fun k hk => by
        rcases List.mem_cons.mp hk with rfl | hk
        · exact Nat.le_refl _
        · have := h2 k hk
          omega⟩
theorem ok_lots_of {P : Program} {w : World} {K : PySem.W.Frag} {mg : Str → Option Value} {base : Heap} (T : Txt K mg) : Cal P w K mg base "lots_of" 2 ["rules"] [] (SpR (rel_lots_of K)) := by
  refine cal_of (st := s_lots_of) T.g_lots_of (T.d.def_ 11 rfl) (fun _ _ _ _ _ _ us hl => match us, hl with | [_], _ => rfl) sc_lots_of (fun vs H Q E hsp => by obtain ⟨rs, r, h, ha, _⟩ := hsp; rw [ha.len]; cases h <;> rfl) fun cdv A outer s H vs Q E hr hsp => ?_
  have hu := hr.units
  have hu0 := hu_of hr
  have hu65 := hu65_of hr
  refine ⟨_, (pss_cons (ps_set (i := 1) sc_lots_of.nd rfl (Or.inr rfl) (pe_op op_rep (pe_lst (pa_cons pe_int pa_nil)) (pe_callB (id := "len") call_len_seq (by rfl) T.f_len PySem.boot_len (pa_cons (pv 0) pa_nil))))
      (pss_one (ps_while PassesOwn.never (pt_val pe_bl)
      (pss_cons (ps_setLc (i := 2) rfl sc_lots_of.nd rfl rfl (sw_true rfl rfl rfl (by decide +kernel)) (pi_enumT rfl T.f_enumerate (pa_cons (pv 0) pa_nil)) (blkOk_by (own := [("at", 3), ("each", 4)]) rfl) (fun _ _ _ _ _ => (show PG _ _ (gTup K 2 _) from (pg_tup rfl (pgs_cons (pg_name (i := 3) sc_lots_of.nd rfl (Or.inl rfl)) (pgs_cons (pg_name (i := 4) sc_lots_of.nd rfl (Or.inl rfl)) pgs_nil))))) (fun _ _ _ _ _ => pts_nil) (fun _ _ _ _ _ => (pe_tup (pa_cons (show PE _ _ (tOp (rIxL K) _ _) from (pe_ix ix_list (pv 1) (pv 3) (fun _ _ => rfl))) (show PA _ _ (StX.tStar K _ _) from (StX.pa_star (pe_lc rfl sc_lots_of.nd (show PI _ _ _ (iTup K _) from (pi_tup (pv 4))) (blkOk_by (own := [("out", 5), ("later", 6)]) rfl) (fun _ _ _ _ _ => (show PG _ _ (gTup K 2 _) from (pg_tup rfl (pgs_cons (pg_name (i := 5) sc_lots_of.nd rfl (Or.inl rfl)) (pgs_cons (pg_name (i := 6) sc_lots_of.nd rfl (Or.inl rfl)) pgs_nil))))) (fun _ _ _ _ _ => pts_nil) (fun _ _ _ _ _ => (pe_tup (pa_cons (pv 5) (pa_cons (show PE _ _ (tOp (rIxL K) _ _) from (pe_ix ix_list (pv 1) (pv 6) (fun _ _ => rfl))) pa_nil))))) pa_nil))))))
      (pss_cons (ps_set (i := 7) sc_lots_of.nd rfl (Or.inl rfl) (pe_cal (ok_numbered (P := P) (w := w) (base := base) T) (hr.mono (by decide)) rfl (pa_cons (pv 2) pa_nil)))
      (pss_cons (ps_if (pt_cmpR op_eq (pe_callB (id := "max") (cr_max rfl) (by rfl) T.f_max (by decide +kernel) (pa_cons (pv 7) pa_nil)) (pe_callB (id := "max") (cr_max rfl) (by rfl) T.f_max (by decide +kernel) (pa_cons (pv 1) pa_nil)) (nomark _)) (pss_one (ps_ret (pv 1))) pss_nil)
      (pss_one (ps_set (i := 1) sc_lots_of.nd rfl (Or.inr rfl) (pv 7))))))))), ?_⟩

  obtain ⟨rs, r, h, ha, hQ⟩ := hsp
  cases h with
  | mk R e n w ok =>
    obtain ⟨v0, rfl, h0⟩ := alls1 ha
    have hn0 : 0 < R.length := by rw [ok.len]; exact ok.n1
    refine g_asg (r := rD K (lotsD (lotsAt R 0))) (gd_to (gd_rep (n := R.length) (Evl.ev_is (ev_lenS (gd_v rfl h0) (.inr rfl)) (by rw [List.length_map])) (by rw [ok.len]; have := ok.n2; omega)) (fun v H2 _ q => by
      show Dp K H2 v (.list ((List.replicate R.length 0).map fun n => .int (n : Nat)))
      rw [List.map_replicate]
      exact q)) (fun v H1 e1 hv => ?_)
    refine Evl.s_while (fun m σ' H' => ∃ k v x2 x3 x4 x5 x6 x7, σ' = [some v0, some v, x2, x3, x4, x5, x6, x7] ∧ Ex H H' ∧ Dp K H' v (lotsD (lotsAt R k)) ∧ (∀ j, j < k → cls R (j + 1) ≠ cls R j) ∧ m + k = n) n ⟨0, v, none, none, none, none, none, none, rfl, e1, hv, fun j hj => absurd hj (by omega), rfl⟩ ?_
    rintro m σ' H2 ⟨k, v, x2, x3, x4, x5, x6, x7, rfl, e2, hv, hk, hmk⟩
    refine ⟨true, Evl.et_test Evl.ev_c, fun _ H3 e3 => ⟨fun σ' H' => ∃ m', m' < m ∧ ∃ k v x2 x3 x4 x5 x6 x7, σ' = [some v0, some v, x2, x3, x4, x5, x6, x7] ∧ Ex H H' ∧ Dp K H' v (lotsD (lotsAt R k)) ∧ (∀ j, j < k → cls R (j + 1) ≠ cls R j) ∧ m' + k = n, fun σ2 H4 z => z, ?_⟩, fun h => by cases h⟩
    have hv3 := dp_ex e3 _ _ hv
    have hL : ∀ s, s < n → (List.map (fun n => PyData.int (n : Nat)) (lotsAt R k))[s]? = some (.int (lt' (lotsAt R k) s : Nat)) := fun s hs => by
      have : s < (lotsAt R k).length := by rw [lotsAt_len, ok.len]; exact hs
      rw [List.getElem?_map, List.getElem?_eq_getElem this]
      simp [lt', List.getElem?_eq_getElem this]
    refine g_asg (r := rD K (.list ((rowsOf R (lotsAt R k)).map dRow))) (gd_to (gd_lst' (ms := R.zipIdx) (f := fun m => dRow (lt' (lotsAt R k) m.2, tr (lotsAt R k) m.1)) (gd_lcPM (fun m : List Rule × Nat => rD K (dRow (lt' (lotsAt R k) m.2, tr (lotsAt R k) m.1))) (gi_enumT (ms := R) (f := dRowT) (gd_v (i := 0) rfl (dp_ex (Ex.tr e2 e3) _ _ h0))) (by rw [List.length_zipIdx, ok.len]; have := ok.n2; omega) (fun m => but_D (tup_row _)) (by exact fun _ _ => rfl) (fun m hm x y H4 e4 hx hy => ?_))) (fun u H4 _ q => ?_)) (fun u H4 e4 hu4 => ?_)
    · have hm2 : m.2 < n := by
        have := List.mem_zipIdx' hm
        rw [← ok.len]
        exact this.1
      have hm1 : m.1 ∈ R := by
        have := List.mem_zipIdx' hm
        rw [this.2]
        exact List.getElem_mem _
      obtain rfl := dp_int hx
      refine gd_tup (ds := .int (lt' (lotsAt R k) m.2 : Nat) :: (tr (lotsAt R k) m.1).map dRule) (ga_cons (gd_ixL (gd_v (i := 1) rfl (dp_ex e4 _ _ hv3)) (Evl.ev_var rfl) (atI_nat (hL _ hm2))) (ga_star ?_)) (by
        show _ + 1 ≤ _
        rw [List.length_map]
        unfold tr
        rw [List.length_map, ok.row _ hm1]
        have := ok.w2
        omega)
      unfold tr
      rw [List.map_map]
      refine gd_lst' (f := dRule ∘ fun p : Rule => (p.1, lt' (lotsAt R k) p.2)) (gd_lcPM (d1 := fun p : Rule => .int (p.1 : Nat)) (d2 := fun p : Rule => .int (p.2 : Nat)) (fun p : Rule => rD K (dRule (p.1, lt' (lotsAt R k) p.2))) (gi_tup (f := dRule) (gd_v (i := 4) rfl hy)) (by rw [ok.row _ hm1]; have := ok.w2; omega) (fun p => but_D (tup_rule _)) (by exact fun _ _ => rfl) (fun p hp x' y' H5 e5 hx' hy' => ?_))
      obtain rfl := dp_int hy'
      exact gd_tup (ds := [.int (p.1 : Nat), .int (lt' (lotsAt R k) p.2 : Nat)]) (ga_cons (gd_v rfl hx') (ga_1 (gd_ixL (gd_v (i := 1) rfl (dp_ex (Ex.tr e4 e5) _ _ hv3)) (Evl.ev_var rfl) (atI_nat (hL _ (ok.nxt _ hm1 _ hp)))))) (by simp)
    · show Dp K H4 u _
      unfold rowsOf
      rw [List.map_map]
      rw [zipIdx_rows] at q
      exact q
    have hrows : (List.map dRow (rowsOf R (lotsAt R k))) = ((rowsOf R (lotsAt R k)).map rowK).map kd := by
      rw [List.map_map]
      exact List.map_congr_left fun p _ => (kd_row p).symm
    have hnum : numb ((rowsOf R (lotsAt R k)).map rowK) = lotsAt R (k + 1) := numb_map_inj rowK (fun a _ b _ h => rowK_inj h)
    refine g_asg (r := rD K (lotsD (lotsAt R (k + 1)))) (gd_call (rel := rel_numbered K) (ga_1 (gd_v (i := 2) (r := rD K (.list (((rowsOf R (lotsAt R k)).map rowK).map kd))) rfl (by rw [← hrows]; exact hu4))) (by
      have := rel_numbered.mk (K := K) ((rowsOf R (lotsAt R k)).map rowK) (fun q hq => by obtain ⟨p, _, rfl⟩ := List.mem_map.mp hq; exact ⟨row_depth p, _, rfl⟩) (by
        rw [List.length_map]
        unfold rowsOf
        rw [List.length_map, List.length_range, ok.len]
        have := ok.n2
        omega)
      rw [hnum] at this
      exact this)) (fun u2 H5 e5 hu5 => ?_)
    obtain ⟨mf, hf1, hf2⟩ := ex_max (l := lotsAt R (k + 1)) (fun z => by have := lotsAt_len R (k + 1); rw [z] at this; simp at this; omega)
    obtain ⟨ml, hl1, hl2⟩ := ex_max (l := lotsAt R k) (fun z => by have := lotsAt_len R k; rw [z] at this; simp at this; omega)
    have c1 : mf + 1 = cls R (k + 1) := by
      rw [cls_succ]
      exact max_numb (l := rowsOf R (lotsAt R k)) hf1 hf2
    have c2 : ml + 1 = cls R k := max_numb (l := lotsAt R k) (by rw [lotsAt_canon]; exact hl1) (by rw [lotsAt_canon]; exact hl2)
    have hk1 : k + 1 ≤ n := by
      have a1 := cls_grows hn0 k hk
      have a2 := cls_le R k
      rw [ok.len] at a2
      omega
    have hv5 := dp_ex (Ex.tr e4 e5) _ _ hv3
    refine Evl.q_when (b := decide (mf = ml)) (Evl.et_B (Evl.ev_op (ev_max (gd_v (i := 7) rfl hu5) hf1 hf2) (ev_max (gd_v (i := 1) rfl hv5) hl1 hl2) (rv_eqI (decide_eq_decide.mpr Int.ofNat_inj)))) (fun hb H6 e6 => ?_) (fun hb H6 e6 => ?_)
    · have he : lotsAt R k = lotsF R := lots_exit hn0 hk (by have := of_decide_eq_true hb; omega)
      rw [he] at hv5
      exact g_ret (gd_v (i := 1) (r := rD K (lotsD (lotsF R))) rfl (dp_ex e6 _ _ hv5)) (fun v' H7 e7 hr => hQ _ _ (Ex.tr e2 (Ex.tr e3 (Ex.tr e4 (Ex.tr e5 (Ex.tr e6 e7))))) hr)
    · refine g_asg' (gd_v (i := 7) (r := rD K (lotsD (lotsAt R (k + 1)))) rfl (dp_ex e6 _ _ hu5)) (fun v' H7 e7 hr => ⟨m - 1, by omega, k + 1, v', _, _, _, _, _, _, rfl, Ex.tr e2 (Ex.tr e3 (Ex.tr e4 (Ex.tr e5 (Ex.tr e6 e7)))), hr, fun j hj => ?_, by omega⟩)
      by_cases hjk : j = k
      · subst hjk
        intro z
        have := of_decide_eq_false hb
        omega
      · exact hk j (by omega)
end Mk
namespace Mk
open PySem PySem.Spec PyProof.Rows L2

/-! ### come_to -/
abbrev N_come_to : List Str := ["rules", "lots", "found", "known", "at", "_", "later"]
theorem sc_come_to : FnScope N_come_to ["rules", "lots"] (defScope s_come_to) := ⟨rfl, rfl, rfl, by decide +kernel, rfl, by decide +kernel, by decide +kernel⟩
def keyN (n : Nat) : Key := .inl (n : Int)
theorem keyN_inj {a b : Nat} (h : keyN a = keyN b) : a = b := by
  unfold keyN at h
  injection h with h
  exact Int.ofNat_inj.mp h
def kn (o : List Nat) : List (Key × V) := numK (o.map keyN)
theorem kn_get {o : List Nat} {x : Nat} : valV (kn o) (keyN x) = if x ∈ o then some (.int ((o.idxOf x : Nat) : Int)) else none := by
  unfold kn
  rw [valV_numK]
  by_cases h : x ∈ o
  · rw [if_pos h, if_pos (List.mem_map_of_mem h), idxOf_map_inj keyN h fun y _ e => keyN_inj e]
  · rw [if_neg h, if_neg fun z => by
      obtain ⟨y, hy, e⟩ := List.mem_map.mp z
      exact h (keyN_inj e ▸ hy)]
theorem kn_put {o : List Nat} {x : Nat} (h : ¬ x ∈ o) : putK (kn o) (keyN x) (.int (o.length : Nat)) = kn (o ++ [x]) := by
  have hn : ¬ keyN x ∈ o.map keyN := fun z => by
    obtain ⟨y, hy, e⟩ := List.mem_map.mp z
    exact h (keyN_inj e ▸ hy)
  have := putK_numK hn
  rw [List.length_map, addU_out hn] at this
  unfold kn
  rw [this, List.map_append]
  rfl
theorem kn_len (o : List Nat) : (kn o).length = o.length := by
  unfold kn
  rw [numK_len, List.length_map]
/-- what come_to gives: the standings met, the lots' numbers -/
def rCome (K : PySem.W.Frag) (R : Rules) (f : List Nat) : Rel := ⟨fun v H => ∃ a p q, v = .ref a ∧ SqT K H a [.ref p, .ref q] ∧ (rD K (lotsD f)).on (.ref p) H ∧ H q = some (.dK (kn (orderF R))), fun e ⟨a, p, q, h1, h2, h3, h4⟩ => ⟨a, p, q, h1, sqt_ex e h2, (rD K (lotsD f)).up e h3, e _ _ h4⟩⟩
inductive rel_come_to (K : PySem.W.Frag) : List Rel → Rel → Prop
  | mk (R : Rules) (e n w : Nat) (ok : Small e n w R) : rel_come_to K [rD K (dRulesT R), rD K (lotsD (lotsF R))] ⟨fun v H => ∃ f : List Nat, f.map (lt' (lotsF R)) = orderF R ∧ (∀ s ∈ f, s < n) ∧ (rCome K R f).on v H, fun e ⟨f, h1, h2, h3⟩ => ⟨f, h1, h2, (rCome K R f).up e h3⟩⟩
def stepV (R : Rules) (f : List Nat) (p : Rule) : List Nat := if lt' (lotsF R) p.2 ∈ f.map (lt' (lotsF R)) then f else f ++ [p.2]
theorem visit_eq (R : Rules) (f : List Nat) (k : Nat) : visit R f k = (rowAt R (f.getD k 0)).foldl (stepV R) f := rfl
theorem fold_stepV_lt {R : Rules} {n : Nat} : ∀ {r : List Rule} {f : List Nat}, (∀ p ∈ r, p.2 < n) → (∀ s ∈ f, s < n) → ∀ s ∈ r.foldl (stepV R) f, s < n
  | [], _, _, hf => hf
  | p :: r, f, hr, hf => fold_stepV_lt (r := r) (fun q hq => hr q (List.mem_cons_of_mem _ hq)) fun s hs => by
    unfold stepV at hs
    split at hs
    · exact hf s hs
    · rcases List.mem_append.mp hs with hs | hs
      · exact hf s hs
      · rw [List.mem_singleton.mp hs]
        exact hr p List.mem_cons_self
theorem fold_stepV_pre {R : Rules} : ∀ (r : List Rule) (f : List Nat), ∃ m, r.foldl (stepV R) f = f ++ m
  | [], f => ⟨[], by simp⟩
  | p :: r, f => by
    obtain ⟨m, hm⟩ := fold_stepV_pre r (stepV R f p)
    rw [List.foldl_cons, hm]
    unfold stepV
    split
    · exact ⟨m, rfl⟩
    · exact ⟨p.2 :: m, by simp⟩
theorem fold_stepV_nd {R : Rules} : ∀ {r : List Rule} {f : List Nat}, (f.map (lt' (lotsF R))).Nodup → ((r.foldl (stepV R) f).map (lt' (lotsF R))).Nodup
  | [], _, h => h
  | p :: r, f, h => fold_stepV_nd (r := r) (by
    unfold stepV
    split
    · exact h
    · rename_i hn
      rw [List.map_append]
      exact List.nodup_append.mpr ⟨h, by simp, fun a ha b hb => by
        rw [List.map_singleton, List.mem_singleton] at hb
        subst hb
        exact fun z => hn (z ▸ ha)⟩)
theorem lots_nd_len {R : Rules} {n : Nat} (hn : R.length = n) {f : List Nat} (hd : (f.map (lt' (lotsF R))).Nodup) (hf : ∀ s ∈ f, s < n) : f.length ≤ n := by
  have := nd_lt hd (n := n) fun x hx => by
    obtain ⟨s, hs, rfl⟩ := List.mem_map.mp hx
    rw [← hn]
    exact lotsF_lt (by rw [hn]; exact hf s hs)
  rwa [List.length_map] at this
theorem dec_lt_nat {a b : Nat} : decide ((a : Int) < (b : Int)) = decide (a < b) := decide_eq_decide.mpr Int.ofNat_lt
theorem ok_come_to {P : Program} {w : World} {K : PySem.W.Frag} {mg : Str → Option Value} {base : Heap} (T : Txt K mg) : Cal P w K mg base "come_to" 1 ["rules", "lots"] [] (SpR (rel_come_to K)) := by
  refine cal_of (st := s_come_to) T.g_come_to (T.d.def_ 12 rfl) (fun _ _ _ _ _ _ us hl => match us, hl with | [_, _], _ => rfl) sc_come_to (fun vs H Q E hsp => by obtain ⟨rs, r, h, ha, _⟩ := hsp; rw [ha.len]; cases h <;> rfl) fun cdv A outer s H vs Q E hr hsp => ?_
  have hu := hr.units
  have hu0 := hu_of hr
  have hu65 := hu65_of hr
  refine ⟨_, (pss_cons (ps_par3 (i := 2) (j := 3) (l := 4) (by rfl) sc_come_to.nd rfl rfl rfl (by decide) (by decide) (by decide) rfl rfl rfl (pa_cons (pe_lst (pa_cons pe_int pa_nil)) (pa_cons (pe_disp (pps_cons (pe_ix ix_list (pv 1) pe_int (fun _ _ => rfl)) pe_int pps_nil) (by rfl) (by rfl) (fun z => by cases z) (by decide)) (pa_cons pe_int pa_nil))) (by rfl))
      (pss_cons (ps_while PassesOwn.never (pt_cmpR op_lt (pv 4) (pe_callB (id := "len") call_len_seq (by rfl) T.f_len PySem.boot_len (pa_cons (pv 2) pa_nil)) (nomark _))
      (pss_cons (ps_for PassesOwn.never rfl (pi_tup (pe_ix ix_tup (pv 0) (pe_ix ix_list (pv 2) (pv 4) (fun _ _ => rfl)) (fun _ _ => rfl))) (pg_tup rfl (pgs_cons (pg_name (i := 5) sc_come_to.nd rfl (Or.inl rfl)) (pgs_cons (pg_name (i := 6) sc_come_to.nd rfl (Or.inl rfl)) pgs_nil)))
      (pss_one (ps_if (pt_cmp (pc_dnotin hu0 (pe_ix ix_list (pv 1) (pv 6) (fun _ _ => rfl)) (pv 3)) rfl) (pss_cons (ps_dput hu0 (pv 3) (pe_ix ix_list (pv 1) (pv 6) (fun _ _ => rfl)) (pe_callB (id := "len") call_len_seq (by rfl) T.f_len PySem.boot_len (pa_cons (pv 2) pa_nil)) rfl)
      (pss_one (ps_expr (pe_bm PySem.F.plainAttrs_list PySem.F.slot_list_append PySem.F.type_list_append mt_append (pv 2) (pa_cons (pv 6) pa_nil))))) pss_nil)))
      (pss_one (ps_set (i := 4) sc_come_to.nd rfl (Or.inl rfl) (pe_op op_add (pv 4) pe_int)))))
      (pss_one (ps_ret (pe_tup (pa_cons (pv 2) (pa_cons (pv 3) pa_nil))))))), ?_⟩

  obtain ⟨rs, r, h, ha, hQ⟩ := hsp
  cases h with
  | mk R e n w ok =>
    obtain ⟨v0, v1, rfl, h0, h1⟩ := alls2 ha
    have hn0 : 0 < n := ok.n1
    have hL : ∀ s, s < n → (List.map (fun n => PyData.int (n : Nat)) (lotsF R))[s]? = some (.int (lt' (lotsF R) s : Nat)) := fun s hs => by
      have : s < (lotsF R).length := by rw [lotsF_len, ok.len]; exact hs
      rw [List.getElem?_map, List.getElem?_eq_getElem this]
      simp [lt', List.getElem?_eq_getElem this]
    obtain ⟨ar, xr, rfl, hr1, hr2⟩ := dp_tup (show Dp K H v0 (.tuple (R.map dRowT)) from h0)
    have hRow : ∀ s, s < n → ∃ u, xr[s]? = some u ∧ Dp K H u (dRowT (rowAt R s)) := fun s hs => by
      refine dpa_get hr2 ?_
      rw [List.getElem?_map]
      have : s < R.length := by rw [ok.len]; exact hs
      simp [rowAt, List.getElem?_eq_getElem this]
    refine ⟨by show 1 ≤ sizeLine; decide, fun p hp q hq => ?_⟩
    have hpq : p ≠ q := fun z => by rw [z, upd_same] at hq; cases hq
    have hq0 : H q = none := by rw [upd_ne (Ne.symm hpq)] at hq; exact hq
    have e1 : Ex H (upd (upd H p (.lst [.int 0])) q (.dK [])) := Ex.tr (Ex.nw hp) (Ex.nw hq)
    refine gd_int (i := (lt' (lotsF R) 0 : Nat)) (gd_ixL (K := K) (ta := tVar 1) (tb := tC (.int 0)) (σ := start N_come_to [.ref ar, v1]) (H := H) (gd_v (i := 1) rfl h1) Evl.ev_c (atI_nat (j := 0) (hL 0 hn0))) _ e1 _ fun H2 e2 => ?_
    refine ⟨e2 _ _ upd_same, [(keyN (lt' (lotsF R) 0), .int 0)], rfl, by simp, ⟨.ref p, .ref q, .int 0, rfl, ?_⟩⟩
    have hp2 : H2 p = some (.lst [.int 0]) := e2 _ _ (by rw [upd_ne hpq, upd_same])
    have eH2 : Ex H (upd H2 q (.dK (mergeK [] [(keyN (lt' (lotsF R) 0), .int 0)]))) := Evl.Ex.mut (Ex.tr e1 e2) hq0
    refine Evl.q_while (fun m σ' H' => ∃ (k : Nat) (f : List Nat) (x5 x6 : Option V), σ' = [some (.ref ar), some v1, some (.ref p), some (.ref q), some (.int (k : Nat)), x5, x6] ∧ Ex H H' ∧ H' p = some (.lst (f.map fun n => .int (n : Nat))) ∧ H' q = some (.dK (kn (orderAt R k))) ∧ f.map (lt' (lotsF R)) = orderAt R k ∧ (∀ s ∈ f, s < n) ∧ m + k = n) n ⟨0, [0], none, none, rfl, eH2, by rw [upd_ne hpq]; exact hp2, by rw [upd_same]; rfl, rfl, fun s hs => by rw [List.mem_singleton.mp hs]; exact hn0, rfl⟩ ?_
    rintro m σ' H3 ⟨k, f, x5, x6, rfl, e3, hp3, hq3, hf, hfn, hmk⟩
    have hfl : f.length ≤ n := lots_nd_len ok.len (by rw [hf]; exact (orderAt_ok ok.toOkR hn0 k).1) hfn
    refine ⟨decide (k < f.length), Evl.et_B (Evl.ev_is (Evl.ev_op (Evl.ev_var rfl) (ev_lenS (K := K) (d := lotsD f) (gd_v (i := 2) rfl (ints_but (H' := H3) hp3)) (.inl rfl)) Evl.rv_I0) (by rw [List.length_map, dec_lt_nat])), fun hb H4 e4 => ?_, fun hb H4 e4 => ?_⟩
    · have hkf : k < f.length := of_decide_eq_true hb
      have hs0 : f.getD k 0 < n := by
        rw [List.getD_eq_getElem?_getD, List.getElem?_eq_getElem hkf]
        exact hfn _ (List.getElem_mem _)
      have hfk : (f.map fun n => V.int (n : Nat))[k]? = some (.int (f.getD k 0 : Nat)) := by
        rw [List.getElem?_map, List.getElem?_eq_getElem hkf]
        simp [List.getElem?_eq_getElem hkf]
      obtain ⟨u, hu1, hu2⟩ := hRow _ hs0
      refine ⟨fun σ' H' => ∃ m', m' < m ∧ ∃ (k : Nat) (f : List Nat) (x5 x6 : Option V), σ' = [some (.ref ar), some v1, some (.ref p), some (.ref q), some (.int (k : Nat)), x5, x6] ∧ Ex H H' ∧ H' p = some (.lst (f.map fun n => .int (n : Nat))) ∧ H' q = some (.dK (kn (orderAt R k))) ∧ f.map (lt' (lotsF R)) = orderAt R k ∧ (∀ s ∈ f, s < n) ∧ m' + k = n, fun σ2 H5 z => z, ?_⟩
      have row2 : ∀ p ∈ rowAt R (f.getD k 0), p.2 < n := fun p hp => ok.nxtAt hp
      have ev_u : Evl.Ev (tOp (rIxT K) (tVar 0) (tOp (rIxL K) (tVar 2) (tVar 4))) [some (.ref ar), some v1, some (.ref p), some (.ref q), some (.int (k : Nat)), x5, x6] H4 u :=
        Evl.ev_op (Evl.ev_var rfl) (Evl.ev_op (Evl.ev_var rfl) (Evl.ev_var rfl) (Evl.rv_ixL (Evl.sq_of (e4 _ _ hp3)) (atI_nat hfk))) (Evl.rv_ixT (sqt_ex (Ex.tr e3 e4) hr1) (atI_nat hu1))
      refine cq_for (B := H) (ms := rowAt R (f.getD k 0)) (e := fun p => rD K (dRule p)) (gc_tup ev_u (Ex.tr e3 e4) hu2) (fun i σ' H' => ∃ x5 x6, σ' = [some (.ref ar), some v1, some (.ref p), some (.ref q), some (.int (k : Nat)), x5, x6] ∧ Ex H H' ∧ H' p = some (.lst ((((rowAt R (f.getD k 0)).take i).foldl (stepV R) f).map fun n => .int (n : Nat))) ∧ H' q = some (.dK (kn ((((rowAt R (f.getD k 0)).take i).foldl (stepV R) f).map (lt' (lotsF R))))))
        (fun H5 e5 => ⟨_, _, rfl, Ex.tr e3 (Ex.tr e4 e5), e5 _ _ (e4 _ _ hp3), by show _ = some (HO.dK (kn (f.map (lt' (lotsF R))))); rw [hf]; exact e5 _ _ (e4 _ _ hq3)⟩) (fun i σ' H' z => by obtain ⟨_, _, _, z, _⟩ := z; exact z) ?_ ?_
      · rintro i mr x σ' H5 hm ⟨x5, x6, rfl, e5, hp5, hq5⟩ hx
        refine gtup2 (dp_ex e5 _ _ hx) fun y1 y2 hy1 hy2 => ?_
        obtain rfl := dp_int hy2
        have hm2 : mr.2 < n := row2 _ (List.mem_of_getElem? hm)
        have fold_take : ((rowAt R (f.getD k 0)).take (i + 1)).foldl (stepV R) f = stepV R (((rowAt R (f.getD k 0)).take i).foldl (stepV R) f) mr := by
          rw [List.take_succ, hm, List.foldl_append]
          rfl
        have hfi : ∀ s ∈ ((rowAt R (f.getD k 0)).take i).foldl (stepV R) f, s < n := fold_stepV_lt (fun p hp => row2 p (List.mem_of_mem_take hp)) hfn
        have hli : (((rowAt R (f.getD k 0)).take i).foldl (stepV R) f).length ≤ n := lots_nd_len ok.len (fold_stepV_nd (by rw [hf]; exact (orderAt_ok ok.toOkR hn0 k).1)) hfi
        have ev_l : ∀ H6, Ex H H6 → Evl.Ev (tOp (rIxL K) (tVar 1) (tVar 6)) [some (.ref ar), some v1, some (.ref p), some (.ref q), some (.int (k : Nat)), some y1, some (.int (mr.2 : Nat))] H6 (kV (keyN (lt' (lotsF R) mr.2))) := fun H6 e6 =>
          gd_int (K := K) (gd_ixL (gd_v (i := 1) rfl (dp_ex e6 _ _ h1)) (Evl.ev_var rfl) (atI_nat (hL _ hm2)))
        refine Evl.s_when (b := !(valV (kn ((((rowAt R (f.getD k 0)).take i).foldl (stepV R) f).map (lt' (lotsF R)))) (keyN (lt' (lotsF R) mr.2))).isSome) (et_dnot (ev_l _ e5) (Evl.ev_var rfl) hq5) (fun hb2 H6 e6 => ?_) (fun hb2 H6 e6 => ?_)
        · have hni : ¬ lt' (lotsF R) mr.2 ∈ (((rowAt R (f.getD k 0)).take i).foldl (stepV R) f).map (lt' (lotsF R)) := fun z => by
            rw [kn_get, if_pos z] at hb2
            cases hb2
          have hst : stepV R (((rowAt R (f.getD k 0)).take i).foldl (stepV R) f) mr = ((rowAt R (f.getD k 0)).take i).foldl (stepV R) f ++ [mr.2] := if_neg hni
          refine q_dput (v := .int ((((rowAt R (f.getD k 0)).take i).foldl (stepV R) f).length : Nat)) (Evl.ev_is (ev_lenS (K := K) (d := lotsD (((rowAt R (f.getD k 0)).take i).foldl (stepV R) f)) (gd_v (i := 2) rfl (ints_but (H' := H6) (e6 _ _ hp5))) (.inl rfl)) (by rw [List.length_map])) (Evl.ev_var rfl) (ev_l _ (Ex.tr e5 e6)) (e6 _ _ hq5) (by rw [kn_len, List.length_map]; have := ok.n2; omega) (fun H7 e7 => ?_)
          have hput := kn_put hni
          rw [List.length_map] at hput
          rw [hput]
          refine Evl.s_app (xs := (((rowAt R (f.getD k 0)).take i).foldl (stepV R) f).map fun n => .int (n : Nat)) (v := .int (mr.2 : Nat)) (by rw [upd_ne hpq]; exact e7 _ _ (e6 _ _ hp5)) (Evl.ev_var rfl) (Evl.ev_var rfl) (by rw [List.length_map]; have := ok.n2; omega) (fun H8 e8 => ⟨_, _, rfl, Evl.Ex.mut (Ex.tr (Evl.Ex.mut (Ex.tr e5 (Ex.tr e6 e7)) hq0) e8) hp, ?_, ?_⟩)
          · rw [upd_same, fold_take, hst, List.map_append]
            rfl
          · rw [upd_ne (Ne.symm hpq), fold_take, hst, List.map_append]
            exact e8 _ _ upd_same
        · have hni : lt' (lotsF R) mr.2 ∈ (((rowAt R (f.getD k 0)).take i).foldl (stepV R) f).map (lt' (lotsF R)) := by
            by_cases z : lt' (lotsF R) mr.2 ∈ (((rowAt R (f.getD k 0)).take i).foldl (stepV R) f).map (lt' (lotsF R))
            · exact z
            · rw [kn_get, if_neg z] at hb2
              cases hb2
          have hst : stepV R (((rowAt R (f.getD k 0)).take i).foldl (stepV R) f) mr = ((rowAt R (f.getD k 0)).take i).foldl (stepV R) f := if_pos hni
          refine ⟨_, _, rfl, Ex.tr e5 e6, ?_, ?_⟩
          · rw [fold_take, hst]
            exact e6 _ _ hp5
          · rw [fold_take, hst]
            exact e6 _ _ hq5
      · rintro σ' H5 ⟨x5, x6, rfl, e5, hp5, hq5⟩
        rw [List.take_length] at hp5 hq5
        have hv : (visit R f k).map (lt' (lotsF R)) = orderAt R (k + 1) := by
          rw [visit_step ok.toOkR hn0 hkf hfn, hf, orderAt_succ]
        rw [← visit_eq] at hp5 hq5
        rw [hv] at hq5
        refine Evl.s_asg (v := .int ((k + 1 : Nat) : Int)) (Evl.ev_is (Evl.ev_op (Evl.ev_var rfl) Evl.ev_c Evl.rv_I0) (by show V.int _ = V.int _; congr 1)) (fun H6 e6 => ⟨m - 1, by omega, k + 1, visit R f k, _, _, rfl, Ex.tr e5 e6, e6 _ _ hp5, e6 _ _ hq5, hv, ?_, by omega⟩)
        rw [visit_eq]
        exact fold_stepV_lt row2 hfn
    · have hkf : ¬ k < f.length := of_decide_eq_false hb
      have hend : orderAt R k = orderF R := orderF_end ok.toOkR hn0 (by rw [← hf, List.length_map]; omega) (by omega)
      refine Evl.s_retU (Evl.eu_tup (Evl.ea_cons (Evl.ev_var rfl) (Evl.ea_cons (Evl.ev_var rfl) Evl.ea_nil)) (by simp)) (fun a H5 _ e5 ha5 => hQ _ _ (Ex.tr e3 (Ex.tr e4 e5)) ⟨f, by rw [hf, hend], hfn, a, p, q, rfl, Evl.st_of ha5, ints_but (H' := H5) (e5 _ _ (e4 _ _ hp3)), by rw [← hend]; exact e5 _ _ (e4 _ _ hq3)⟩)
/-! ### least_in -/
abbrev N_least_in : List Str := ["table", "lots", "found", "known", "here", "out", "later"]
theorem sc_least_in : FnScope N_least_in ["table"] (defScope s_least_in) := ⟨rfl, rfl, rfl, by decide +kernel, rfl, by decide +kernel, by decide +kernel⟩
inductive rel_least_in (K : PySem.W.Frag) : List Rel → Rel → Prop
  | mk (R : Rules) (e n w : Nat) (ok : Small e n w R) : rel_least_in K [tabR K e n w R] (tabR K e (leastF R).length w (leastF R))
theorem ok_least_in {P : Program} {w : World} {K : PySem.W.Frag} {mg : Str → Option Value} {base : Heap} (T : Txt K mg) : Cal P w K mg base "least_in" 7 ["table"] [] (SpR (rel_least_in K)) := by
  refine cal_of (st := s_least_in) T.g_least_in (T.d.def_ 13 rfl) (fun _ _ _ _ _ _ us hl => match us, hl with | [_], _ => rfl) sc_least_in (fun vs H Q E hsp => by obtain ⟨rs, r, h, ha, _⟩ := hsp; rw [ha.len]; cases h <;> rfl) fun cdv A outer s H vs Q E hr hsp => ?_
  have hu := hr.units
  have hu0 := hu_of hr
  have hu65 := hu65_of hr
  refine ⟨_, (pss_cons (ps_set (i := 1) sc_least_in.nd rfl (Or.inr rfl) (pe_cal (ok_lots_of (P := P) (w := w) (base := base) T) (hr.mono (by decide)) rfl (pa_cons (pe_fld (pv 0) rfl) pa_nil)))
      (pss_cons (ps_asg (pe_cal (ok_come_to (P := P) (w := w) (base := base) T) (hr.mono (by decide)) rfl (pa_cons (pe_fld (pv 0) rfl) (pa_cons (pv 1) pa_nil))) (pg_tup rfl (pgs_cons (pg_name (i := 2) sc_least_in.nd rfl (Or.inl rfl)) (pgs_cons (pg_name (i := 3) sc_least_in.nd rfl (Or.inr rfl)) pgs_nil))))
      (pss_one (ps_ret (pe_calI (ok_Table_init (P := P) (w := w) (base := base) T) (hr.mono (by decide)) rfl (pa_cons (pe_fld (pv 0) rfl) (pa_cons (pe_lc rfl sc_least_in.nd (pi_list (pv 2)) (blkOk_by (own := [("here", 4)]) rfl) (fun _ _ _ _ _ => (pg_name (i := 4) sc_least_in.nd rfl (Or.inl rfl))) (fun _ _ _ _ _ => pts_nil) (fun _ _ _ _ _ => (pe_lc rfl sc_least_in.nd (show PI _ _ _ (iTup K _) from (pi_tup (show PE _ _ (tOp (rIxT K) _ _) from (pe_ix ix_tup (show PE _ _ (tFld K _ _) from (pe_fld (pv 0) rfl)) (pv 4) (fun _ _ => rfl))))) (blkOk_by (own := [("out", 5), ("later", 6)]) rfl) (fun _ _ _ _ _ => (show PG _ _ (gTup K 2 _) from (pg_tup rfl (pgs_cons (pg_name (i := 5) sc_least_in.nd rfl (Or.inl rfl)) (pgs_cons (pg_name (i := 6) sc_least_in.nd rfl (Or.inl rfl)) pgs_nil))))) (fun _ _ _ _ _ => pts_nil) (fun _ _ _ _ _ => (pe_tup (pa_cons (pv 5) (pa_cons (pe_dget hu0 (pv 3) (show PE _ _ (tOp (rIxL K) _ _) from (pe_ix ix_list (pv 1) (pv 6) (fun _ _ => rfl))) (fun _ _ => rfl)) pa_nil))))))) pa_nil))))))), ?_⟩

  obtain ⟨rs, r, h, ha, hQ⟩ := hsp
  cases h with
  | mk R e n w ok =>
    obtain ⟨v0, rfl, h0⟩ := alls1 ha
    have hn0 : 0 < n := ok.n1
    refine g_asg (r := rD K (lotsD (lotsF R))) (gd_call (ga_1 (gd_fld (r := rD K (dRulesT R)) (gd_v rfl h0) T.cl_Table T.n_Table_rules)) (.mk R e n w ok)) (fun v1 H1 e1 hv1 => ?_)
    have h01 := (tabR K e n w R).up e1 h0
    refine gd_call (rel := rel_come_to K) (ga_cons (gd_fld (r := rD K (dRulesT R)) (gd_v (i := 0) (σ := (start N_least_in [v0]).set 1 (some v1)) rfl h01) T.cl_Table T.n_Table_rules) (ga_1 (gd_v (i := 1) (r := rD K (lotsD (lotsF R))) rfl hv1))) (.mk R e n w ok) H1 Ex.rfl' _ (fun v2 H2 e2 hv2 => ?_)
    obtain ⟨f, hf, hfn, a, p, q, rfl, ha2, hp2, hq2⟩ := hv2
    refine ⟨a, _, rfl, ha2, rfl, _, _, rfl, _, _, rfl, rfl, ?_⟩
    have h02 := (tabR K e n w R).up e2 h01
    have hv12 := (rD K (lotsD (lotsF R))).up e2 hv1
    have hL : ∀ s, s < n → (List.map (fun n => PyData.int (n : Nat)) (lotsF R))[s]? = some (.int (lt' (lotsF R) s : Nat)) := fun s hs => by
      have : s < (lotsF R).length := by rw [lotsF_len, ok.len]; exact hs
      rw [List.getElem?_map, List.getElem?_eq_getElem this]
      simp [lt', List.getElem?_eq_getElem this]
    have hR : ∀ s, s < n → (R.map dRowT)[s]? = some (dRowT (rowAt R s)) := fun s hs => by
      rw [List.getElem?_map]
      have : s < R.length := by rw [ok.len]; exact hs
      simp [rowAt, List.getElem?_eq_getElem this]
    have hfl : f.length ≤ n := lots_nd_len ok.len (by rw [hf]; exact orderF_nd ok.toOkR hn0) hfn
    have hmem : ∀ s, s ∈ f → ∀ p ∈ rowAt R s, lt' (lotsF R) p.2 ∈ orderF R := fun s hs p hp => by
      have h1 : lt' (lotsF R) s ∈ orderF R := by rw [← hf]; exact List.mem_map_of_mem hs
      have h2 : lt' (lotsF R) p.2 ∈ (tr (lotsF R) (rowAt R s)).map (·.2) := by
        unfold tr
        rw [List.map_map]
        exact List.mem_map.mpr ⟨p, hp, rfl⟩
      rw [← rep_tr ok.toOkR hn0 (hfn s hs)] at h2
      unfold tr at h2
      rw [List.map_map] at h2
      obtain ⟨p', hp', e'⟩ := List.mem_map.mp h2
      rw [← e']
      exact orderF_closed ok.toOkR hn0 h1 hp'
    have hleast : (f.map fun s => leastRow R (rowAt R s)) = leastF R := by
      unfold leastF
      rw [← hf, List.map_map]
      exact List.map_congr_left fun s hs => (leastRow_tr (rep_tr ok.toOkR hn0 (hfn s hs))).symm
    have okL := leastF_ok ok.toOkR hn0
    have hll : (leastF R).length = (orderF R).length := leastF_len R
    have okS : Small e (leastF R).length w (leastF R) := ⟨by rw [hll]; exact okL, ok.e1, ok.e2, by rw [hll]; exact orderF_pos ok.toOkR, by rw [hll]; have := orderF_le ok.toOkR hn0; have := ok.n2; omega, ok.w1, ok.w2⟩
    refine g_ret (gd_make (F := tabF K e (leastF R).length w (leastF R)) (rs := [rD K (.int e), rD K (.list ((leastF R).map dRowL))]) (ga_cons (gd_fld (gd_v (i := 0) rfl h02) T.cl_Table T.n_Table_exits) (ga_1 ?_)) (.mk _ (leastF R) e _ w (.inl rfl) okS)) (fun v3 H3 e3 hv3 => hQ _ _ (Ex.tr e1 (Ex.tr e2 e3)) hv3)
    have hds : (leastF R).map dRowL = f.map fun s => PyData.list ((leastRow R (rowAt R s)).map dRule) := by
      rw [← hleast, List.map_map]
      rfl
    rw [hds]
    refine gd_lcFN (fun s => (leastRow R (rowAt R s)).map dRule) (gi_list (ms := f) (f := fun n => .int (n : Nat)) (gd_v (i := 2) rfl hp2)) (by have := ok.n2; omega) (fun s => tup_all tup_rule _) (fun _ => rfl) (fun s hs x H3 e3 hx => ?_)
    obtain rfl := dp_int hx
    have hsn := hfn s hs
    unfold leastRow
    rw [List.map_map, List.map_map]
    refine gl_lcPM (d1 := fun p : Rule => .int (p.1 : Nat)) (d2 := fun p : Rule => .int (p.2 : Nat)) (fun p : Rule => rD K (dRule (p.1, (orderF R).idxOf (lt' (lotsF R) p.2)))) (gi_tup (f := dRule) (gd_ixT (gd_fld (r := rD K (dRulesT R)) (gd_v (i := 0) rfl ((tabR K e n w R).up e3 h02)) T.cl_Table T.n_Table_rules) (Evl.ev_var rfl) (atI_nat (hR s hsn)))) (by rw [ok.rowLen hsn]; have := ok.w2; omega) (fun p => but_D (tup_rule _)) (by exact fun _ _ => rfl) (fun p hp x' y' H4 e4 hx' hy' => ?_)
    obtain rfl := dp_int hy'
    refine gd_tup (ds := [.int (p.1 : Nat), .int ((orderF R).idxOf (lt' (lotsF R) p.2) : Nat)]) (ga_cons (gd_v rfl hx') (ga_1 (gd_ev (v := .int ((orderF R).idxOf (lt' (lotsF R) p.2) : Nat)) (ev_dget (k := keyN (lt' (lotsF R) p.2)) (Evl.ev_var rfl) ?_ ((Ex.tr e3 e4) _ _ hq2) ?_) (.int _)))) (by simp)
    · exact gd_int (K := K) (gd_ixL (gd_v (i := 1) rfl (dp_ex (Ex.tr e3 e4) _ _ hv12)) (Evl.ev_var rfl) (atI_nat (hL _ (ok.nxtAt hp))))
    · rw [kn_get, if_pos (hmem s hs p hp)]
end Mk
namespace Mk
open PySem PySem.Spec PyProof.Rows L2
section
variable {K : PySem.W.Frag} {σ : L2.St} {H : Hp} {ta te tb : TE} {t : TT} {ti : TI} {vs : List Nat} {α : Type} {ms : List α} {e : α → Rel}
theorem gl_lcN {j : Nat} (p : α → Bool) (f : α → Rel) (h : GI Ex ti σ H ms e) (hz : ms.length ≤ 90000) (hb : ∀ m, (f m).But) (hw : ∀ x, wipe ((wipe σ vs).set j (some x)) vs = wipe σ vs)
    (ht : ∀ m ∈ ms, ∀ x H1, Ex H H1 → (e m).on x H1 → Evl.EvT t ((wipe σ vs).set j (some x)) H1 (p m)) (he : ∀ m ∈ ms, ∀ x H1, Ex H H1 → (e m).on x H1 → p m = true → GD te ((wipe σ vs).set j (some x)) H1 (f m)) :
    GL (tLc ti (gName j) t te vs) σ H ((ms.filter p).map f) :=
  gl_lcR p f h hz (fun m hm x H1 e1 hx => ⟨Ex.rfl', hw x, ht m hm x H1 e1 hx, he m hm x H1 e1 hx⟩) hb gName_mono
theorem gl_lcM {j : Nat} (f : α → Rel) (h : GI Ex ti σ H ms e) (hz : ms.length ≤ 90000) (hb : ∀ m, (f m).But) (hw : ∀ x, wipe ((wipe σ vs).set j (some x)) vs = wipe σ vs)
    (he : ∀ m ∈ ms, ∀ x H1, Ex H H1 → (e m).on x H1 → GD te ((wipe σ vs).set j (some x)) H1 (f m)) : GL (tLc ti (gName j) tYes te vs) σ H (ms.map f) := by
  have := gl_lcN (t := tYes) (p := fun _ => true) f h hz hb hw (fun _ _ _ _ _ _ => et_yes) fun m hm x H1 e1 hx _ => he m hm x H1 e1 hx
  rwa [filter_all] at this
theorem gl_lcP {i j : Nat} {d1 d2 : α → PyData} (p : α → Bool) (f : α → Rel) (h : GI Ex ti σ H ms (fun m => rD K (.tuple [d1 m, d2 m]))) (hz : ms.length ≤ 90000) (hb : ∀ m, (f m).But) (hw : ∀ x y, wipe (((wipe σ vs).set i (some x)).set j (some y)) vs = wipe σ vs)
    (ht : ∀ m ∈ ms, ∀ x y H1, Ex H H1 → Dp K H1 x (d1 m) → Dp K H1 y (d2 m) → Evl.EvT t (((wipe σ vs).set i (some x)).set j (some y)) H1 (p m))
    (he : ∀ m ∈ ms, ∀ x y H1, Ex H H1 → Dp K H1 x (d1 m) → Dp K H1 y (d2 m) → p m = true → GD te (((wipe σ vs).set i (some x)).set j (some y)) H1 (f m)) :
    GL (tLc ti (gTup K 2 (gCons (gName i) (gCons (gName j) gNil))) t te vs) σ H ((ms.filter p).map f) :=
  gl_lcR p f h hz (fun m hm x H1 e1 hx => gtup2 hx fun x1 x2 q1 q2 => ⟨Ex.rfl', hw x1 x2, ht m hm x1 x2 H1 e1 q1 q2, he m hm x1 x2 H1 e1 q1 q2⟩) hb gTup2_mono
/-- the items exact -/
theorem el_gl {f : α → V} (h : GL te σ H (ms.map fun m => rV (f m))) : Evl.EvL te σ H (ms.map f) := fun H1 e1 Q q => h H1 e1 Q fun p xs H2 hp e2 h1 h2 => by
  rw [alls_val h2] at h1
  exact q p H2 hp e2 h1
/-- a list that is known, its items told -/
def rLm (K : PySem.W.Frag) (ds : List PyData) : Rel := ⟨fun v H => ∃ a xs, v = .ref a ∧ H a = some (.lst xs) ∧ DpAll K H xs ds, fun e ⟨a, xs, h1, h2, h3⟩ => ⟨a, xs, h1, e _ _ h2, dpa_ex e _ _ h3⟩⟩
theorem rLm_D {ds : List PyData} {v : V} (h : (rLm K ds).on v H) : (rD K (.list ds)).on v H := by
  obtain ⟨a, xs, rfl, h2, h3⟩ := h
  exact .lst (Evl.sq_of h2) h3
theorem gd_cat {l : Addr} {xs : List V} {ds1 ds2 : List PyData} (ha : Evl.Ev ta σ H (.ref l)) (hl : H l = some (.lst xs)) (hx : DpAll K H xs ds1) (hb : GL tb σ H (ds2.map (rD K))) (hz : ds1.length + ds2.length ≤ 100000) : GD (tOp rCat ta tb) σ H (rLm K (ds1 ++ ds2)) := fun H1 e1 Q q =>
  ha H1 e1 _ fun H2 e2 => hb H2 (Ex.tr e1 e2) _ fun p ys H3 _ e3 h3 hy => ⟨l, p, xs, ys, rfl, rfl, e3 _ _ (e2 _ _ (e1 _ _ hl)), h3, by
    have a1 := dpa_len hx
    have a2 := hy.len
    rw [List.length_map] at a2
    exact Evl.sz_of (by omega), fun r hr => q _ _ (Ex.tr e2 (Ex.tr e3 (Ex.nw hr))) ⟨r, _, rfl, upd_same, dpa_app (dpa_ex (Ex.tr e1 (Ex.tr e2 (Ex.tr e3 (Ex.nw hr)))) _ _ hx) (dpa_ex (Ex.nw hr) _ _ hy.data)⟩⟩
theorem inV_ints {x : Int} : ∀ {l : List Int}, inV (.int x) (l.map V.int) = decide (x ∈ l)
  | [] => rfl
  | a :: l => by
    have ih := inV_ints (x := x) (l := l)
    unfold inV at ih ⊢
    rw [List.map_cons, List.any_cons, ih]
    show (eqV (.int a) (.int x) || _) = _
    by_cases h : a = x
    · subst h
      simp [eqV]
    · have h2 : ¬ x = a := fun z => h z.symm
      simp [eqV, h, h2]
theorem flat_ints : ∀ l : List Int, (l.map V.int).all flatV = true
  | [] => rfl
  | _ :: l => by rw [List.map_cons, List.all_cons, flat_ints l]; rfl
end
/-! ### deep == -/
theorem eqv_int (a b : Int) : PyData.eqv (.int a) (.int b) = decide (a = b) := by
  simp only [PyData.eqv]
  by_cases h : a = b <;> simp [h]
theorem eqv_pair (a b c d : Int) : PyData.eqv (.tuple [.int a, .int b]) (.tuple [.int c, .int d]) = (decide (a = c) && decide (b = d)) := by
  simp only [PyData.eqv, PyData.eqvAll, Bool.and_true]
  by_cases h : a = c <;> by_cases h2 : b = d <;> simp [h, h2]
theorem lay_all {α : Type} {f : α → PyData} (h : ∀ a, (f a).canLay0 = true) : ∀ l : List α, PyData.canLayAll0 (l.map f) = true
  | [] => by simp [PyData.canLayAll0]
  | a :: l => by
    rw [List.map_cons]
    simp only [PyData.canLayAll0, Bool.and_eq_true]
    exact ⟨h a, lay_all h l⟩
theorem dep_all {α : Type} {f : α → PyData} {m : Nat} (h : ∀ a, (f a).depth ≤ m) : ∀ l : List α, PyData.depthAll (l.map f) ≤ m
  | [] => by simp [PyData.depthAll]
  | a :: l => by
    rw [List.map_cons]
    simp only [PyData.depthAll]
    have := h a
    have := dep_all h l
    omega
theorem shaped_of {d : PyData} (h1 : d.canLay0 = true) (h2 : d.depth ≤ 64) : SeqAt.shaped d = true := by
  unfold SeqAt.shaped
  rw [h1, Bool.true_and]
  exact decide_eq_true h2
theorem shaped_list {α : Type} {f : α → PyData} (h1 : ∀ a, (f a).canLay0 = true) (h2 : ∀ a, (f a).depth ≤ 60) (l : List α) : SeqAt.shaped (.list (l.map f)) = true :=
  shaped_of (by simp only [PyData.canLay0]; exact lay_all h1 l) (by simp only [PyData.depth]; have := dep_all h2 l; omega)
theorem shaped_tup {α : Type} {f : α → PyData} (h1 : ∀ a, (f a).canLay0 = true) (h2 : ∀ a, (f a).depth ≤ 60) (l : List α) : SeqAt.shaped (.tuple (l.map f)) = true :=
  shaped_of (by simp only [PyData.canLay0]; exact lay_all h1 l) (by simp only [PyData.depth]; have := dep_all h2 l; omega)
theorem lay_pair (a b : Int) : (PyData.tuple [.int a, .int b]).canLay0 = true := by simp [PyData.canLay0, PyData.canLayAll0]
theorem dep_pair (a b : Int) : (PyData.tuple [.int a, .int b]).depth ≤ 60 := by simp [PyData.depth, PyData.depthAll]
section
variable {K : PySem.W.Frag} {σ : L2.St} {H : Hp} {ta tb : TE} {d e : PyData} {ds : List PyData}
theorem ev_eqD (ha : GD ta σ H (rD K d)) (hb : GD tb σ H (rD K e)) (h1 : SeqAt.shaped d = true) (h2 : SeqAt.shaped e = true) : Evl.Ev (tOp (rEqD K) ta tb) σ H (.bl (PyData.eqv d e)) := fun H1 e1 Q q =>
  ha H1 e1 _ fun x H2 e2 hx => hb H2 (Ex.tr e1 e2) _ fun y H3 e3 hy => ⟨d, e, dp_ex e3 _ _ hx, hy, h1, h2, q H3 (Ex.tr e2 e3)⟩
theorem ev_neD (ha : GD ta σ H (rD K d)) (hb : GD tb σ H (rD K e)) (h1 : SeqAt.shaped d = true) (h2 : SeqAt.shaped e = true) : Evl.Ev (tOp (rNeD K) ta tb) σ H (.bl (!PyData.eqv d e)) := fun H1 e1 Q q =>
  ha H1 e1 _ fun x H2 e2 hx => hb H2 (Ex.tr e1 e2) _ fun y H3 e3 hy => ⟨d, e, dp_ex e3 _ _ hx, hy, h1, h2, q H3 (Ex.tr e2 e3)⟩
theorem ev_notInD (ha : GD ta σ H (rD K d)) (hb : GD tb σ H (rD K (.list ds))) (h1 : SeqAt.shaped d = true) (h2 : SeqAt.shaped (.list ds) = true) : Evl.Ev (tOp (rNotInD K) ta tb) σ H (.bl (!ds.any fun z => PyData.eqv z d)) := fun H1 e1 Q q =>
  ha H1 e1 _ fun x H2 e2 hx => hb H2 (Ex.tr e1 e2) _ fun y H3 e3 hy => ⟨d, ds, dp_ex e3 _ _ hx, hy, h1, h2, q H3 (Ex.tr e2 e3)⟩
end
/-! ### dicts of pairs -/
def pairK (q : Nat × Nat) : NestedKey := .tup [.num q.1, .num q.2]
theorem pairK_inj {a b : Nat × Nat} (h : pairK a = pairK b) : a = b := ruleK_inj (a := a) (b := b) h
theorem kd_pair (q : Nat × Nat) : kd (pairK q) = .tuple [.int q.1, .int q.2] := rfl
theorem pair_depth (q : Nat × Nat) : (pairK q).depth ≤ 8 := Nat.le_trans (rule_depth q) (by decide)
def pkv (ps : List (Nat × Nat)) (f : Nat × Nat → Nat) : List (NestedKey × V) := ps.map fun q => (pairK q, .int (f q : Nat))
theorem find_map_inj {α : Type} {g : α → NestedKey} (hg : ∀ a b, g a = g b → a = b) (q : α) : ∀ {l : List α}, q ∈ l → (l.find? fun a => decide (g a = g q)) = some q
  | a :: l, h => by
    rw [List.find?_cons]
    by_cases e : g a = g q
    · rw [show decide (g a = g q) = true from decide_eq_true e, hg a q e]
    · rw [show decide (g a = g q) = false from decide_eq_false e]
      rcases List.mem_cons.mp h with rfl | h
      · exact absurd rfl e
      · exact find_map_inj hg q h
theorem pkv_get {ps : List (Nat × Nat)} {f : Nat × Nat → Nat} {q : Nat × Nat} (h : q ∈ ps) : valV (pkv ps f) (pairK q) = some (.int (f q : Nat)) := by
  unfold pkv
  rw [valV_map pairK (fun q => V.int (f q : Nat)), find_map_inj (fun _ _ => pairK_inj) q h]
  rfl
theorem idx_self {α : Type} [BEq α] [LawfulBEq α] : ∀ {l : List α} (n : Nat), l.Nodup → (l.zipIdx n).map (fun p => (p.1, p.2)) = l.map fun x => (x, n + l.idxOf x)
  | [], n, _ => rfl
  | a :: l, n, h => by
    have h' := List.nodup_cons.mp h
    rw [List.zipIdx_cons, List.map_cons, List.map_cons, idx_self (n + 1) h'.2]
    congr 1
    · simp
    · refine List.map_congr_left fun x hx => ?_
      have : ¬ a = x := fun z => h'.1 (z ▸ hx)
      rw [List.idxOf_cons, show (a == x) = false by simpa using this]
      show (x, n + 1 + l.idxOf x) = (x, n + (l.idxOf x + 1))
      congr 1
      omega
theorem numK_pkv {ps : List (Nat × Nat)} (h : ps.Nodup) : numK (ps.map pairK) = pkv ps fun q => ps.idxOf q := by
  unfold numK pkv
  have e := idx_self 0 h
  have e2 : (ps.map pairK).zipIdx.map (fun p => (p.1, V.int (p.2 : Nat))) = (ps.zipIdx.map (fun p => (p.1, p.2))).map fun p => (pairK p.1, V.int (p.2 : Nat)) := by
    rw [List.zipIdx_map, List.map_map, List.map_map]
    rfl
  rw [e2, e, List.map_map]
  refine List.map_congr_left fun q _ => ?_
  simp
def rPk (P : Program) (w : World) (K : PySem.W.Frag) (ps : List (Nat × Nat)) (f : Nat × Nat → Nat) : Rel := ⟨fun v H => ∃ d, v = .ref d ∧ ND P w K H d (pkv ps f), fun e ⟨d, h1, h2⟩ => ⟨d, h1, h2.ex e⟩⟩
theorem tupA_app : ∀ {a b : List PyData}, tupOnlyAll a = true → tupOnlyAll b = true → tupOnlyAll (a ++ b) = true
  | [], _, _, h => h
  | x :: a, b, h, h2 => by
    simp only [tupOnlyAll, Bool.and_eq_true, List.cons_append] at h ⊢
    exact ⟨h.1, tupA_app h.2 h2⟩
section
variable {K : PySem.W.Frag} {σ : L2.St} {B H : Hp} {ta te : TE} {D : Ends} {tz : TS} {l : Addr} {xs : List V} {ds : List PyData} {d : PyData}
/-- l.append(e): l younger than B, its items data without lists -/
theorem s_appB (hB : Ex B H) (h0 : B l = none) (hl : H l = some (.lst xs)) (hx : DpAll K H xs ds) (ha : Evl.Ev ta σ H (.ref l)) (h : GD te σ H (rD K d)) (ht : tupOnlyAll ds = true) (ht1 : tupOnly d = true) (hz : ds.length < 100000)
    (k : ∀ vs H', Ex B H' → ExB l H H' → H' l = some (.lst vs) → DpAll K H' vs (ds ++ [d]) → D.nx σ H') : tDrop (tBM K "list" rAppend ta (tCons te tNil)) D σ H := ha H Ex.rfl' _ fun H1 e1 =>
  ⟨Or.inl ⟨rfl, xs, Evl.sq_of (e1 l _ hl)⟩, h H1 e1 _ fun v H2 e2 hv => ⟨l, xs, v, rfl, rfl, e2 l _ (e1 l _ hl), Evl.sz_lt (by rw [dpa_len hx]; exact hz), by
    have hu := ExB.upd l H2 (.lst (xs ++ [v]))
    have hn := noT_lst (e2 l _ (e1 l _ hl))
    refine k (xs ++ [v]) _ (Evl.Ex.mut (Ex.tr hB (Ex.tr e1 e2)) h0) ((Ex.but (Ex.tr e1 e2)).tr hu) upd_same ?_
    exact dpa_app (dpa_but (fun _ _ q => sqt_but hu hn q) _ _ ht (dpa_ex (Ex.tr e1 e2) _ _ hx)) (.cons (dp_but (fun _ _ q => sqt_but hu hn q) _ _ ht1 hv) .nil)⟩⟩
theorem q_appB (hB : Ex B H) (h0 : B l = none) (hl : H l = some (.lst xs)) (hx : DpAll K H xs ds) (ha : Evl.Ev ta σ H (.ref l)) (h : GD te σ H (rD K d)) (ht : tupOnlyAll ds = true) (ht1 : tupOnly d = true) (hz : ds.length < 100000)
    (k : ∀ vs H', Ex B H' → ExB l H H' → H' l = some (.lst vs) → DpAll K H' vs (ds ++ [d]) → tz D σ H') : tSeq (tDrop (tBM K "list" rAppend ta (tCons te tNil))) tz D σ H := s_appB (D := { D with nx := tz D }) hB h0 hl hx ha h ht ht1 hz k
end
theorem dec_ne_nat {a b : Nat} : (!decide ((a : Int) = (b : Int))) = decide (a ≠ b) := by
  rw [show decide ((a : Int) = (b : Int)) = decide (a = b) from decide_eq_decide.mpr Int.ofNat_inj]
  simp
theorem dec_eq_nat {a b : Nat} : decide ((a : Int) = (b : Int)) = decide (a = b) := decide_eq_decide.mpr Int.ofNat_inj
/-- d[(.., ..)] = v, the key made on the way -/
theorem s_nputG {P : Program} {w : World} {K : PySem.W.Frag} {σ : L2.St} {H : Hp} {td ty tv : TE} {d : Addr} {kvs : List (NestedKey × V)} {k : NestedKey} {v : V} {D : Ends} (hv : Evl.Ev tv σ H v) (hd : Evl.Ev td σ H (.ref d)) (hy : GD ty σ H (rD K (kd k))) (hr : ∃ ks, k = .tup ks) (h8 : k.depth ≤ 8) (h : ND P w K H d kvs) (hz : kvs.length < 100000)
    (q : ∀ H1 o, Ex H H1 → ND P w K (upd H1 d o) d (putK kvs k v) → D.nx σ (upd H1 d o)) : sNPut P w K td ty tv D σ H :=
  hv H Ex.rfl' _ fun H1 e1 => hd H1 e1 _ fun H2 e2 => hy H2 (Ex.tr e1 e2) _ fun y H3 e3 hyd => by
    obtain ⟨ks, rfl⟩ := hr
    obtain ⟨a, xs, rfl, _, _⟩ := dp_tup (show Dp K H3 y (.tuple (kds ks)) from hyd)
    exact ⟨d, a, _, kvs, rfl, rfl, h.ex (Ex.tr e1 (Ex.tr e2 e3)), ⟨h8, hyd⟩, Evl.sz_lt hz, fun o nd => q H3 o (Ex.tr e1 (Ex.tr e2 e3)) nd⟩
def pairsTo (m i : Nat) : List (Nat × Nat) := (List.range i).flatMap fun i => (List.range' (i + 1) (m - (i + 1))).map fun j => (i, j)
theorem pairsTo_succ (m i : Nat) : pairsTo m (i + 1) = pairsTo m i ++ (List.range' (i + 1) (m - (i + 1))).map fun j => (i, j) := by
  unfold pairsTo
  rw [List.range_succ, List.flatMap_append]
  simp
theorem pairsTo_lt {m i : Nat} {q : Nat × Nat} (h : q ∈ pairsTo m i) : q.1 < i := by
  obtain ⟨a, ha, h⟩ := List.mem_flatMap.mp h
  obtain ⟨j, hj, rfl⟩ := List.mem_map.mp h
  exact List.mem_range.mp ha
theorem pairsTo_pre {m : Nat} : ∀ {i k : Nat}, ∃ r, pairsTo m (i + k) = pairsTo m i ++ r
  | i, 0 => ⟨[], by simp⟩
  | i, k + 1 => by
    obtain ⟨r, hr⟩ := pairsTo_pre (m := m) (i := i) (k := k)
    refine ⟨r ++ (List.range' (i + k + 1) (m - (i + k + 1))).map fun j => (i + k, j), ?_⟩
    rw [show i + (k + 1) = i + k + 1 from rfl, pairsTo_succ, hr, List.append_assoc]
end Mk
namespace Mk
open PySem PySem.Spec PyProof.Rows L2

/-! ### arrivals_of -/
abbrev N_arrivals_of : List Str := ["small", "starts", "found", "standing", "rules", "out", "later", "start", "_"]
theorem sc_arrivals_of : FnScope N_arrivals_of ["small", "starts"] (defScope s_arrivals_of) := ⟨rfl, rfl, rfl, by decide +kernel, rfl, by decide +kernel, by decide +kernel⟩
def dArr (q : Arr) : PyData := .tuple [.int (q.1 : Nat), match q.2 with
  | some o => .int (o : Nat)
  | none => .none]
def dP2 (q : Nat × Nat) : PyData := .tuple [.int (q.1 : Nat), .int (q.2 : Nat)]
inductive rel_arrivals_of (K : PySem.W.Frag) : List Rel → Rel → Prop
  | mk (S : Rules) (e n w : Nat) (ok : Small e n w S) : rel_arrivals_of K [tabR K e n w S, rD K (.list [.int 0])] (rLm K ((arrF S).map dArr))
theorem tup_P2 (q : Nat × Nat) : tupOnly (dP2 q) = true := rfl
theorem any_P2 {q : Nat × Nat} : ∀ {U : List (Nat × Nat)}, ((U.map dP2).any fun z => PyData.eqv z (dP2 q)) = decide (q ∈ U)
  | [] => rfl
  | a :: U => by
    obtain ⟨a1, a2⟩ := a
    obtain ⟨q1, q2⟩ := q
    rw [List.map_cons, List.any_cons, any_P2]
    unfold dP2
    rw [eqv_pair, Bool.eq_iff_iff]
    simp only [Bool.or_eq_true, Bool.and_eq_true, decide_eq_true_eq, List.mem_cons, Prod.mk.injEq, Int.ofNat_inj]
    constructor
    · rintro (⟨h1, h2⟩ | h)
      · exact .inl ⟨h1.symm, h2.symm⟩
      · exact .inr h
    · rintro (⟨h1, h2⟩ | h)
      · exact .inl ⟨h1.symm, h2.symm⟩
      · exact .inr h
theorem shaped_P2 (q : Nat × Nat) : SeqAt.shaped (dP2 q) = true := shaped_of (lay_pair _ _) (Nat.le_trans (dep_pair _ _) (by decide))
theorem shaped_P2s (U : List (Nat × Nat)) : SeqAt.shaped (.list (U.map dP2)) = true := shaped_list (fun q => lay_pair _ _) (fun q => dep_pair _ _) U
def chgTo (S : Rules) (i : Nat) : List (Nat × Nat) := (List.range i).flatMap fun s => chgRow s (rowAt S s)
theorem chgTo_succ (S : Rules) (i : Nat) : chgTo S (i + 1) = chgTo S i ++ chgRow i (rowAt S i) := by
  unfold chgTo
  rw [List.range_succ, List.flatMap_append]
  simp
theorem chgRow_take {s i : Nat} {r : List Rule} {p : Rule} (h : r[i]? = some p) : chgRow s (r.take (i + 1)) = chgRow s (r.take i) ++ (if p.2 ≠ s then [(p.2, p.1)] else []) := by
  unfold chgRow
  rw [filter_take_succ h, List.map_append]
  by_cases hp : p.2 = s
  · simp [hp]
  · simp [hp]
theorem chgTo_len {S : Rules} {e n w : Nat} (ok : OkR e n w S) : ∀ i, i ≤ n → (chgTo S i).length ≤ i * w
  | 0, _ => by simp [chgTo]
  | i + 1, hi => by
    rw [chgTo_succ, List.length_append]
    have h1 := chgTo_len ok i (by omega)
    have h2 : (chgRow i (rowAt S i)).length ≤ w := by
      unfold chgRow
      rw [List.length_map]
      refine Nat.le_trans (List.length_filter_le _ _) ?_
      rw [ok.rowLen (by omega)]
      exact Nat.le_refl _
    rw [Nat.succ_mul]
    omega
theorem rowAt_of {S : Rules} {i : Nat} {m : List Rule} (h : S[i]? = some m) : rowAt S i = m := by
  unfold rowAt
  rw [List.getD_eq_getElem?_getD, h]
  rfl
theorem ok_arrivals_of {P : Program} {w : World} {K : PySem.W.Frag} {mg : Str → Option Value} {base : Heap} (T : Txt K mg) : Cal P w K mg base "arrivals_of" 1 ["small", "starts"] [] (SpR (rel_arrivals_of K)) := by
  refine cal_of (st := s_arrivals_of) T.g_arrivals_of (T.d.def_ 16 rfl) (fun _ _ _ _ _ _ us hl => match us, hl with | [_, _], _ => rfl) sc_arrivals_of (fun vs H Q E hsp => by obtain ⟨rs, r, h, ha, _⟩ := hsp; rw [ha.len]; cases h <;> rfl) fun cdv A outer s H vs Q E hr hsp => ?_
  have hu := hr.units
  have hu0 := hu_of hr
  have hu65 := hu65_of hr
  refine ⟨_, (pss_cons (ps_set (i := 2) sc_arrivals_of.nd rfl (Or.inr rfl) (pe_lst pa_nil))
      (pss_cons (ps_for PassesOwn.never rfl (pi_enumT rfl T.f_enumerate (pa_cons (pe_fld (pv 0) rfl) pa_nil)) (pg_tup rfl (pgs_cons (pg_name (i := 3) sc_arrivals_of.nd rfl (Or.inl rfl)) (pgs_cons (pg_name (i := 4) sc_arrivals_of.nd rfl (Or.inl rfl)) pgs_nil)))
      (pss_one (ps_for PassesOwn.never rfl (pi_tup (pv 4)) (pg_tup rfl (pgs_cons (pg_name (i := 5) sc_arrivals_of.nd rfl (Or.inl rfl)) (pgs_cons (pg_name (i := 6) sc_arrivals_of.nd rfl (Or.inl rfl)) pgs_nil)))
      (pss_one (ps_if (PW.pt (pw_and (pt_cmpR op_ne (pv 6) (pv 3) (nomark _)) (pw_and1 (pt_cmpR (op_notInD hu65) (pe_tup (pa_cons (pv 6) (pa_cons (pv 5) pa_nil))) (pv 2) (by rfl))))) (pss_one (ps_expr (pe_bm PySem.F.plainAttrs_list PySem.F.slot_list_append PySem.F.type_list_append mt_append (pv 2) (pa_cons (pe_tup (pa_cons (pv 6) (pa_cons (pv 5) pa_nil))) pa_nil)))) pss_nil)))))
      (pss_one (ps_ret (pe_op op_cat (pv 2) (pe_lc rfl sc_arrivals_of.nd (pi_list (pv 1)) (blkOk_by (own := [("start", 7)]) rfl) (fun _ _ _ _ _ => (pg_name (i := 7) sc_arrivals_of.nd rfl (Or.inl rfl))) (fun _ _ _ _ _ => (pts_one (show PT _ _ (tB (tOp (rIn K true) _ _)) from (pt_cmpR op_notIn_seq (pv 7) (pe_lc rfl sc_arrivals_of.nd (show PI _ _ _ (iList K _) from (pi_list (pv 2))) (blkOk_by (own := [("later", 6), ("_", 8)]) rfl) (fun _ _ _ _ _ => (show PG _ _ (gTup K 2 _) from (pg_tup rfl (pgs_cons (pg_name (i := 6) sc_arrivals_of.nd rfl (Or.inl rfl)) (pgs_cons (pg_name (i := 8) sc_arrivals_of.nd rfl (Or.inl rfl)) pgs_nil))))) (fun _ _ _ _ _ => pts_nil) (fun _ _ _ _ _ => (pv 6))) (by rfl))))) (fun _ _ _ _ _ => (pe_tup (pa_cons (pv 7) (pa_cons pe_non pa_nil)))))))))), ?_⟩

  obtain ⟨rs, r, h, ha, hQ⟩ := hsp
  cases h with
  | mk S e n w ok =>
    obtain ⟨v0, v1, rfl, h0, h1⟩ := alls2 ha
    refine Evl.q_asgL (Evl.el_lst (vs := []) Evl.ea_nil (by decide)) (fun l H1 hl e1 hl1 => ?_)
    obtain ⟨u, hu1, hu2⟩ := fld_at (K := K) (σ := (start N_arrivals_of [v0, v1]).set 2 (some (.ref l))) (i := 0) (g := "rules") (r := rD K (dRulesT S)) rfl h0 T.cl_Table T.n_Table_rules
    have hnw : n * w ≤ 1800 := Nat.mul_le_mul ok.n2 ok.w2
    have bnd : ∀ i l', i ≤ n → (∃ m, chgTo S i = l' ++ m) → (uniq l').length ≤ 1800 := fun i l' hi ⟨m, hm⟩ => by
      have a1 := uniq_len l'
      have a2 := chgTo_len ok.toOkR i hi
      rw [hm, List.length_append] at a2
      have a3 : i * w ≤ n * w := Nat.mul_le_mul_right _ hi
      omega
    refine weq_for (B := H) (ms := S) (f := dRowT) (gwe_tup hu2 hu1) e1 (fun i σ' H' => ∃ x3 x4 x5 x6 x7 x8 vs, σ' = [some v0, some v1, some (.ref l), x3, x4, x5, x6, x7, x8] ∧ Ex H H' ∧ H' l = some (.lst vs) ∧ DpAll K H' vs ((uniq (chgTo S i)).map dP2)) (fun H2 e2 => ⟨_, _, _, _, _, _, [], rfl, Ex.tr e1 e2, e2 _ _ hl1, .nil⟩) (fun i σ' H' z => by obtain ⟨_, _, _, _, _, _, _, _, z, _⟩ := z; exact z) ?_ ?_
    · rintro i m z σ' H2 H3 hm ⟨x3, x4, x5, x6, x7, x8, vs, rfl, e2, hl2, hv2⟩ e3 hz
      have hrow : rowAt S i = m := rowAt_of hm
      have hin : i < n := by rw [← ok.len]; exact (List.getElem?_eq_some_iff.mp hm).1
      refine w_for (B := H) (ms := m) (e := fun p => rD K (dRule p)) (gw_tup (v := z) (Evl.ev_var rfl) hz) (Ex.tr e2 e3) (fun j σ' H' => ∃ x5 x6 x7 x8 vs, σ' = [some v0, some v1, some (.ref l), some (.int (i : Nat)), some z, x5, x6, x7, x8] ∧ Ex H H' ∧ H' l = some (.lst vs) ∧ DpAll K H' vs ((uniq (chgTo S i ++ chgRow i (m.take j))).map dP2))
        (fun H4 e4 => ⟨_, _, _, _, vs, rfl, Ex.tr e2 (Ex.tr e3 e4), e4 _ _ (e3 _ _ hl2), by rw [List.take_zero]; show DpAll K H4 vs ((uniq (chgTo S i ++ [])).map dP2); rw [List.append_nil]; exact dpa_ex (Ex.tr e3 e4) _ _ hv2⟩) (fun j σ' H' z => by obtain ⟨_, _, _, _, _, _, z, _⟩ := z; exact z) ?_ ?_
      · rintro j p x σ' H4 hp ⟨x5, x6, x7, x8, vs, rfl, e4, hl4, hv4⟩ hx
        refine gtup2 (dp_ex e4 _ _ hx) fun y1 y2 hy1 hy2 => ?_
        obtain rfl := dp_int hy1
        obtain rfl := dp_int hy2
        have hU : (uniq (chgTo S i ++ chgRow i (m.take j))).length ≤ 1800 := bnd (i + 1) _ (by omega) (by
          rw [chgTo_succ, hrow]
          have : m = m.take j ++ m.drop j := (List.take_append_drop j m).symm
          refine ⟨chgRow i (m.drop j), ?_⟩
          rw [List.append_assoc]
          congr 1
          unfold chgRow
          rw [← List.map_append, ← List.filter_append, List.take_append_drop])
        refine Evl.s_when (b := decide (p.2 ≠ i) && decide (¬ (p.2, p.1) ∈ uniq (chgTo S i ++ chgRow i (m.take j)))) (Evl.et_and (Evl.et_B (Evl.ev_op (Evl.ev_var rfl) (Evl.ev_var rfl) (rv_neI dec_ne_nat))) (fun _ => Evl.et_B (Evl.ev_is (ev_notInD (d := dP2 (p.2, p.1)) (gd_tup (ds := [.int (p.2 : Nat), .int (p.1 : Nat)]) (ga_int (Evl.ev_var rfl) (ga_int (Evl.ev_var rfl) ga_nil)) (by simp)) (gd_v (i := 2) (r := rD K (.list ((uniq (chgTo S i ++ chgRow i (m.take j))).map dP2))) rfl (.lst (Evl.sq_of hl4) hv4)) (shaped_P2 _) (shaped_P2s _)) (by rw [any_P2]; simp)))) (fun hb H5 e5 => ?_) (fun hb H5 e5 => ?_)
        · obtain ⟨hb1, hb2⟩ := Bool.and_eq_true_iff.mp hb
          have hb1 := of_decide_eq_true hb1
          have hb2 := of_decide_eq_true hb2
          refine s_appB (d := dP2 (p.2, p.1)) (Ex.tr e4 e5) hl (e5 _ _ hl4) (dpa_ex e5 _ _ hv4) (Evl.ev_var rfl) (gd_tup (ds := [.int (p.2 : Nat), .int (p.1 : Nat)]) (ga_int (Evl.ev_var rfl) (ga_int (Evl.ev_var rfl) ga_nil)) (by simp)) (tup_all tup_P2 _) rfl (by rw [List.length_map]; omega) (fun vs' H6 e6 _ hl6 hv6 => ⟨_, _, _, _, vs', rfl, e6, hl6, ?_⟩)
          rw [chgRow_take hp, if_pos hb1, ← List.append_assoc, uniq_snoc, addU_out hb2, List.map_append]
          exact hv6
        · refine ⟨_, _, _, _, vs, rfl, Ex.tr e4 e5, e5 _ _ hl4, ?_⟩
          rw [chgRow_take hp]
          by_cases hpi : p.2 = i
          · rw [if_neg (by simpa using hpi), List.append_nil]
            exact dpa_ex e5 _ _ hv4
          · rw [if_pos hpi, ← List.append_assoc, uniq_snoc, addU_in]
            · exact dpa_ex e5 _ _ hv4
            · by_cases hh : (p.2, p.1) ∈ uniq (chgTo S i ++ chgRow i (m.take j))
              · exact hh
              · simp [hpi, hh] at hb
      · rintro σ' H4 ⟨x5, x6, x7, x8, vs, rfl, e4, hl4, hv4⟩
        refine ⟨_, _, _, _, _, _, vs, rfl, e4, hl4, ?_⟩
        rw [chgTo_succ, hrow]
        rw [List.take_length] at hv4
        exact hv4
    · rintro σ' H2 ⟨x3, x4, x5, x6, x7, x8, vs, rfl, e2, hl2, hv2⟩
      have hS : chgTo S S.length = chg S := rfl
      rw [hS] at hv2
      have hU : (arrU S).length ≤ 1800 := by
        have z := bnd n (chgTo S n) (Nat.le_refl _) ⟨[], by rw [List.append_nil]⟩
        rw [← ok.len] at z
        exact z
      have hF : (arrF S).map dArr = (arrU S).map dP2 ++ (([0].filter fun s : Nat => !decide (s ∈ (arrU S).map (·.1))).map fun s => PyData.tuple [.int (s : Nat), .none]) := by
        unfold arrF
        rw [List.map_append, List.map_map]
        congr 1
        by_cases h : 0 ∈ (arrU S).map (·.1)
        · rw [if_pos h]
          simp only [List.filter_cons, h, decide_true, Bool.not_true]
          rfl
        · rw [if_neg h]
          simp only [List.filter_cons, h, decide_false, Bool.not_false]
          rfl
      refine g_ret (r := rLm K ((arrF S).map dArr)) ?_ (fun v H3 e3 hv => hQ _ _ (Ex.tr e2 e3) hv)
      rw [hF]
      refine gd_cat (Evl.ev_var rfl) hl2 hv2 ?_ (by
        have := List.length_filter_le (fun s : Nat => !decide (s ∈ (arrU S).map (·.1))) [0]
        rw [List.length_map, List.length_map]
        simp only [List.length_singleton] at this
        omega)
      rw [List.map_map]
      show GL _ _ _ (((([0] : List Nat).filter fun s : Nat => !decide (s ∈ (arrU S).map (·.1)))).map fun s : Nat => rD K (.tuple [.int (s : Nat), .none]))
      refine gl_lcN (ms := ([0] : List Nat)) (e := fun s : Nat => rD K (.int (s : Nat))) (fun s : Nat => !decide (s ∈ (arrU S).map (·.1))) (fun s : Nat => rD K (.tuple [.int (s : Nat), .none])) ?_ (by decide) (fun s => but_D rfl) ?_ ?_ ?_
      · exact gi_list (ms := [0]) (f := fun s : Nat => .int (s : Nat)) (gd_v (i := 1) rfl (dp_ex e2 _ _ h1))
      · exact fun _ => rfl
      rotate_left
      · exact fun s hs x H3 e3 hx _ => gd_tup (ds := [.int (s : Nat), .none]) (ga_cons (gd_v (i := 7) rfl hx) (ga_1 (gd_ev (v := .non) Evl.ev_c .non))) (by simp)
      intro s hs x H3 e3 hx
      obtain rfl := dp_int hx
      refine Evl.et_B (Evl.ev_is (Evl.ev_opL (xs := (arrU S).map fun q => .int (q.1 : Nat)) (Evl.ev_var rfl) (el_gl (gl_lcPM (d1 := fun q : Nat × Nat => .int (q.1 : Nat)) (d2 := fun q : Nat × Nat => .int (q.2 : Nat)) (fun q : Nat × Nat => rV (.int (q.1 : Nat))) (gi_list (ms := arrU S) (f := dP2) (gd_v (i := 2) rfl (.lst (Evl.sq_of (e3 _ _ hl2)) (dpa_ex e3 _ _ hv2)))) (by omega) (fun _ => but_V) (by exact fun _ _ => rfl) (fun q hq x' y' H4 e4 hx' hy' => gd_ev (Evl.ev_var rfl) (r := rV (.int (q.1 : Nat))) (dp_int hx')))) (fun p H4 h4 e4 => Evl.rv_niL (Evl.sq_of h4) rfl (by
        have := flat_ints ((arrU S).map fun q => ((q.1 : Nat) : Int))
        rw [List.map_map] at this
        exact this))) ?_)
      have := inV_ints (x := (s : Int)) (l := (arrU S).map fun q => ((q.1 : Nat) : Int))
      rw [List.map_map] at this
      rw [show ((arrU S).map fun q => V.int (q.1 : Nat)) = (arrU S).map (V.int ∘ fun q => ((q.1 : Nat) : Int)) from rfl, this]
      congr 2
      rw [decide_eq_decide]
      constructor
      · intro h
        obtain ⟨q, hq, e⟩ := List.mem_map.mp h
        exact List.mem_map.mpr ⟨q, hq, Int.ofNat_inj.mp e⟩
      · intro h
        obtain ⟨q, hq, e⟩ := List.mem_map.mp h
        exact List.mem_map.mpr ⟨q, hq, congrArg _ e⟩
end Mk
namespace Mk
open PySem PySem.Spec PyProof.Rows L2

/-! ### pairs_of -/
abbrev N_pairs_of : List Str := ["many", "found", "one", "other"]
theorem sc_pairs_of : FnScope N_pairs_of ["many"] (defScope s_pairs_of) := ⟨rfl, rfl, rfl, by decide +kernel, rfl, by decide +kernel, by decide +kernel⟩
inductive rel_pairs_of (P : Program) (w : World) (K : PySem.W.Frag) : List Rel → Rel → Prop
  | mk (m : Nat) (hm : m ≤ 400) : rel_pairs_of P w K [rD K (.int m)] (rPk P w K (pairsL m) fun q => (pairsL m).idxOf q)
theorem ok_pairs_of {P : Program} {w : World} {K : PySem.W.Frag} {mg : Str → Option Value} {base : Heap} (T : Txt K mg) : Cal P w K mg base "pairs_of" 1 ["many"] [] (SpR (rel_pairs_of P w K)) := by
  refine cal_of (st := s_pairs_of) T.g_pairs_of (T.d.def_ 17 rfl) (fun _ _ _ _ _ _ us hl => match us, hl with | [_], _ => rfl) sc_pairs_of (fun vs H Q E hsp => by obtain ⟨rs, r, h, ha, _⟩ := hsp; rw [ha.len]; cases h <;> rfl) fun cdv A outer s H vs Q E hr hsp => ?_
  have hu := hr.units
  have hu0 := hu_of hr
  have hu65 := hu65_of hr
  refine ⟨_, (pss_cons (ps_set (i := 1) sc_pairs_of.nd rfl (Or.inl rfl) pe_nnew)
      (pss_cons (ps_for PassesOwn.never rfl (pi_range1 rfl T.f_range (pa_cons (pv 0) pa_nil)) (pg_name (i := 2) sc_pairs_of.nd rfl (Or.inl rfl))
      (pss_one (ps_for PassesOwn.never rfl (pi_range2 rfl T.f_range (pa_cons (pe_op op_add (pv 2) pe_int) (pa_cons (pv 0) pa_nil))) (pg_name (i := 3) sc_pairs_of.nd rfl (Or.inl rfl))
      (pss_one (ps_nput hu (pv 1) (pe_tup (pa_cons (pv 2) (pa_cons (pv 3) pa_nil))) (pe_callB (id := "len") call_lenN (by rfl) T.f_len (by decide +kernel) (pa_cons (pv 1) pa_nil)) rfl)))))
      (pss_one (ps_ret (pv 1))))), ?_⟩

  obtain ⟨rs, r, h, ha, hQ⟩ := hsp
  cases h with
  | mk m hm =>
    obtain ⟨v0, rfl, h0⟩ := alls1 ha
    obtain rfl := dp_int h0
    refine fun d hd o hnd => ?_
    have e1 : Ex H (upd H d o) := Ex.nw hd
    have hlen : ∀ l, (∃ r, pairsL m = l ++ r) → l.length ≤ 80000 := fun l ⟨r, hr⟩ => by
      have := pairsL_len m
      rw [hr, List.length_append] at this
      have h2 : m * (m - 1) ≤ 400 * 399 := Nat.mul_le_mul hm (by omega)
      omega
    refine wq_for (B := H) (ms := List.range m) (e := fun i : Nat => rV (.int (i : Nat))) (gw_rng1 (Evl.ev_var rfl) (by omega)) e1 (fun i σ' H' => ∃ x2 x3, σ' = [some (.int (m : Nat)), some (.ref d), x2, x3] ∧ Ex H H' ∧ ND P w K H' d (numK ((pairsTo m i).map pairK))) (fun H2 e2 => ⟨_, _, rfl, Ex.tr e1 e2, hnd.ex e2⟩) (fun i σ' H' z => by obtain ⟨_, _, _, z, _⟩ := z; exact z) ?_ ?_
    · rintro i mi x σ' H2 hmi ⟨x2, x3, rfl, e2, nd2⟩ hx
      have hx : x = .int (mi : Nat) := hx
      subst hx
      have him : mi = i ∧ i < m := by
        have := List.getElem?_eq_some_iff.mp hmi
        obtain ⟨h1, h2⟩ := this
        rw [List.getElem_range] at h2
        rw [List.length_range] at h1
        exact ⟨h2.symm, h1⟩
      obtain ⟨rfl, him⟩ := him
      refine w_for (B := H) (ms := List.range' (mi + 1) (m - (mi + 1))) (e := fun j : Nat => rV (.int (j : Nat))) (gw_rng2 (lo := mi + 1) (n := m) (Evl.ev_is (Evl.ev_op (Evl.ev_var rfl) Evl.ev_c Evl.rv_I0) (by show V.int _ = V.int _; congr 1)) (Evl.ev_var rfl) (by omega) (by omega)) e2 (fun c σ' H' => ∃ x3, σ' = [some (.int (m : Nat)), some (.ref d), some (.int (mi : Nat)), x3] ∧ Ex H H' ∧ ND P w K H' d (numK ((pairsTo m mi ++ ((List.range' (mi + 1) (m - (mi + 1))).take c).map fun j => (mi, j)).map pairK))) (fun H3 e3 => ⟨_, rfl, Ex.tr e2 e3, by rw [List.take_zero, List.map_nil, List.append_nil]; exact nd2.ex e3⟩) (fun c σ' H' z => by obtain ⟨_, _, z, _⟩ := z; exact z) ?_ ?_
      · rintro c mj x σ' H3 hmj ⟨x3, rfl, e3, nd3⟩ hx
        have hx : x = .int (mj : Nat) := hx
        subst hx
        have hcj := List.getElem?_eq_some_iff.mp hmj
        obtain ⟨hc1, hc2⟩ := hcj
        have hni : ¬ pairK (mi, mj) ∈ (pairsTo m mi ++ ((List.range' (mi + 1) (m - (mi + 1))).take c).map fun j => (mi, j)).map pairK := fun z => by
          obtain ⟨q, hq, e⟩ := List.mem_map.mp z
          have := pairK_inj e
          subst this
          rcases List.mem_append.mp hq with hq | hq
          · have := pairsTo_lt hq
            simp only at this
            omega
          · obtain ⟨j', hj', e'⟩ := List.mem_map.mp hq
            have e' := (Prod.mk.inj e').2
            subst e'
            obtain ⟨c', hc', e2⟩ := List.mem_take_iff_getElem.mp hj'
            rw [List.getElem_range'] at e2 hc2
            omega
        have hl2 : ((pairsTo m mi ++ ((List.range' (mi + 1) (m - (mi + 1))).take c).map fun j => (mi, j))).length ≤ 80000 := hlen _ (by
          obtain ⟨r, hr⟩ := pairsTo_pre (m := m) (i := mi + 1) (k := m - (mi + 1))
          rw [show mi + 1 + (m - (mi + 1)) = m by omega, pairsTo_succ] at hr
          refine ⟨((List.range' (mi + 1) (m - (mi + 1))).drop c).map (fun j => (mi, j)) ++ r, ?_⟩
          show pairsTo m m = _
          rw [hr, List.append_assoc, List.append_assoc, ← List.append_assoc (List.map _ (List.take c _)), ← List.map_append, List.take_append_drop])
        refine s_nputG (k := pairK (mi, mj)) (v := .int (((pairsTo m mi ++ ((List.range' (mi + 1) (m - (mi + 1))).take c).map fun j => (mi, j)).map pairK).length : Nat)) (Evl.ev_is (ev_lenNd (Evl.ev_var rfl) nd3) (by rw [numK_len])) (Evl.ev_var rfl) (gd_tup (ds := [.int (mi : Nat), .int (mj : Nat)]) (ga_int (Evl.ev_var rfl) (ga_int (Evl.ev_var rfl) ga_nil)) (by simp)) ⟨_, rfl⟩ (pair_depth _) nd3 (by rw [numK_len, List.length_map]; omega) (fun H4 o4 e4 nd4 => ⟨_, rfl, Evl.Ex.mut (Ex.tr e3 e4) hd, ?_⟩)
        rw [putK_numK hni, addU_out hni] at nd4
        have et : ((List.range' (mi + 1) (m - (mi + 1))).take (c + 1)).map (fun j => (mi, j)) = ((List.range' (mi + 1) (m - (mi + 1))).take c).map (fun j => (mi, j)) ++ [(mi, mj)] := by
          rw [List.take_succ, hmj, List.map_append]
          rfl
        rw [et, ← List.append_assoc, List.map_append]
        exact nd4
      · rintro σ' H3 ⟨x3, rfl, e3, nd3⟩
        rw [List.take_length, ← pairsTo_succ] at nd3
        exact ⟨_, _, rfl, e3, nd3⟩
    · rintro σ' H2 ⟨x2, x3, rfl, e2, nd2⟩
      rw [List.length_range] at nd2
      have hp : pairsTo m m = pairsL m := rfl
      rw [hp, numK_pkv (nd_pairsL m)] at nd2
      exact Evl.s_ret (Evl.ev_var rfl) (fun H3 e3 => hQ _ _ (Ex.tr e2 e3) ⟨d, rfl, nd2.ex e3⟩)
/-! ### pieces_for -/
abbrev N_pieces_for : List Str := ["standings", "ways", "arrivals"]
theorem sc_pieces_for : FnScope N_pieces_for ["standings", "ways", "arrivals"] (defScope s_pieces_for) := ⟨rfl, rfl, rfl, by decide +kernel, rfl, by decide +kernel, by decide +kernel⟩
inductive rel_pieces_for (K : PySem.W.Frag) : List Rel → Rel → Prop
  | mk (n w m : Nat) (hn : n ≤ 300) (hw : 1 ≤ w ∧ w ≤ 6) (hm : 1 ≤ m ∧ m ≤ 3000) : rel_pieces_for K [rD K (.int n), rD K (.int w), rD K (.int m)] (rV (.int (piecesF n w m : Nat)))
theorem ok_pieces_for {P : Program} {w : World} {K : PySem.W.Frag} {mg : Str → Option Value} {base : Heap} (T : Txt K mg) : Cal P w K mg base "pieces_for" 1 ["standings", "ways", "arrivals"] [] (SpR (rel_pieces_for K)) := by
  refine cal_of (st := s_pieces_for) T.g_pieces_for (T.d.def_ 18 rfl) (fun _ _ _ _ _ _ us hl => match us, hl with | [_, _, _], _ => rfl) sc_pieces_for (fun vs H Q E hsp => by obtain ⟨rs, r, h, ha, _⟩ := hsp; rw [ha.len]; cases h <;> rfl) fun cdv A outer s H vs Q E hr hsp => ?_
  have hu := hr.units
  have hu0 := hu_of hr
  have hu65 := hu65_of hr
  refine ⟨_, (pss_one (ps_ret (pe_op op_add (pe_op op_fdiv (pe_op op_mul (pe_op op_mul (pv 0) (pv 1)) (pe_op op_sub (pv 1) pe_int)) pe_int) (pe_op op_fdiv (pe_op op_mul (pv 2) (pe_op op_sub (pv 2) pe_int)) pe_int)))), ?_⟩

  obtain ⟨rs, r, h, ha, hQ⟩ := hsp
  cases h with
  | mk n w m hn hw hm =>
    obtain ⟨v0, v1, v2, rfl, h0, h1, h2⟩ := alls3 ha
    obtain rfl := dp_int h0
    obtain rfl := dp_int h1
    obtain rfl := dp_int h2
    refine Evl.s_ret (Evl.ev_is (Evl.ev_op (Evl.ev_op (Evl.ev_op (Evl.ev_op (Evl.ev_var rfl) (Evl.ev_var rfl) (Evl.rv_I ?_)) (Evl.ev_op (Evl.ev_var rfl) Evl.ev_c Evl.rv_I0) (Evl.rv_I ?_)) Evl.ev_c (Evl.rv_I ?_)) (Evl.ev_op (Evl.ev_op (Evl.ev_var rfl) (Evl.ev_op (Evl.ev_var rfl) Evl.ev_c Evl.rv_I0) (Evl.rv_I ?_)) Evl.ev_c (Evl.rv_I ?_)) Evl.rv_I0) ?_) (fun H1 e => hQ _ _ e rfl)
    · exact .inl (by omega)
    · exact .inr (by omega)
    · exact ⟨by omega, by omega⟩
    · exact .inl (by omega)
    · exact ⟨by omega, by omega⟩
    · show V.int _ = V.int _
      congr 1
      unfold piecesF manyF
      obtain ⟨w', rfl⟩ : ∃ w', w = w' + 1 := ⟨w - 1, by omega⟩
      obtain ⟨m', rfl⟩ : ∃ m', m = m' + 1 := ⟨m - 1, by omega⟩
      simp only [Nat.add_sub_cancel]
      push_cast
      rw [show (w' : Int) + 1 - 1 = (w' : Int) by omega, show (m' : Int) + 1 - 1 = (m' : Int) by omega]
/-! ### mark_of -/
abbrev N_mark_of : List Str := ["pieces", "one", "other"]
theorem sc_mark_of : FnScope N_mark_of ["pieces", "one", "other"] (defScope s_mark_of) := ⟨rfl, rfl, rfl, by decide +kernel, rfl, by decide +kernel, by decide +kernel⟩
def dMark (q : Nat × Nat) : PyData := .tuple [.int (q.1 : Nat), .int (q.2 : Nat)]
inductive rel_mark_of (P : Program) (w : World) (K : PySem.W.Frag) : List Rel → Rel → Prop
  | mk (m one other : Nat) (f : Nat × Nat → Nat) (h1 : one < m) (h2 : other < m) (h3 : one ≠ other) : rel_mark_of P w K [rPk P w K (pairsL m) f, rD K (.int one), rD K (.int other)] (rD K (dMark (markOf (fun i j => f (i, j)) one other)))
theorem ok_mark_of {P : Program} {w : World} {K : PySem.W.Frag} {mg : Str → Option Value} {base : Heap} (T : Txt K mg) : Cal P w K mg base "mark_of" 1 ["pieces", "one", "other"] [] (SpR (rel_mark_of P w K)) := by
  refine cal_of (st := s_mark_of) T.g_mark_of (T.d.def_ 19 rfl) (fun _ _ _ _ _ _ us hl => match us, hl with | [_, _, _], _ => rfl) sc_mark_of (fun vs H Q E hsp => by obtain ⟨rs, r, h, ha, _⟩ := hsp; rw [ha.len]; cases h <;> rfl) fun cdv A outer s H vs Q E hr hsp => ?_
  have hu := hr.units
  have hu0 := hu_of hr
  have hu65 := hu65_of hr
  refine ⟨_, (pss_one (ps_ret (pe_ifExp (pt_cmpR op_lt (pv 1) (pv 2) (nomark _)) (pe_tup (pa_cons (pe_nget hu (pv 0) (pe_tup (pa_cons (pv 1) (pa_cons (pv 2) pa_nil))) (fun _ _ => rfl)) (pa_cons (pe_gint rfl T.i_SET) pa_nil))) (pe_tup (pa_cons (pe_nget hu (pv 0) (pe_tup (pa_cons (pv 2) (pa_cons (pv 1) pa_nil))) (fun _ _ => rfl)) (pa_cons (pe_gint rfl T.i_RESET) pa_nil)))))), ?_⟩

  obtain ⟨rs, r, h, ha, hQ⟩ := hsp
  cases h with
  | mk m one other f hm1 hm2 hne =>
    obtain ⟨v0, v1, v2, rfl, h0, h1, h2⟩ := alls3 ha
    obtain rfl := dp_int h1
    obtain rfl := dp_int h2
    obtain ⟨d, rfl, nd⟩ := h0
    refine g_ret (gd_if (b := decide (one < other)) (Evl.et_B (Evl.ev_is (Evl.ev_op (Evl.ev_var rfl) (Evl.ev_var rfl) Evl.rv_I0) (by rw [dec_lt_nat]))) (fun hb => ?_) (fun hb => ?_)) (fun v H1 e hv => hQ _ _ e hv)
    · have hb := of_decide_eq_true hb
      unfold markOf
      rw [if_pos hb]
      exact gd_tup (ds := [.int (f (one, other) : Nat), .int (1 : Nat)]) (ga_int (ev_ngetG (k := pairK (one, other)) (Evl.ev_var rfl) (gd_tup (ds := [.int (one : Nat), .int (other : Nat)]) (ga_int (Evl.ev_var rfl) (ga_int (Evl.ev_var rfl) ga_nil)) (by simp)) nd (pair_depth _) ⟨_, rfl⟩ (pkv_get (mem_pairsL.mpr ⟨hb, hm2⟩))) (ga_int Evl.ev_c ga_nil)) (by simp)
    · have hb := of_decide_eq_false hb
      unfold markOf
      rw [if_neg hb]
      exact gd_tup (ds := [.int (f (other, one) : Nat), .int (2 : Nat)]) (ga_int (ev_ngetG (k := pairK (other, one)) (Evl.ev_var rfl) (gd_tup (ds := [.int (other : Nat), .int (one : Nat)]) (ga_int (Evl.ev_var rfl) (ga_int (Evl.ev_var rfl) ga_nil)) (by simp)) nd (pair_depth _) ⟨_, rfl⟩ (pkv_get (mem_pairsL.mpr ⟨by omega, hm1⟩))) (ga_int Evl.ev_c ga_nil)) (by simp)
end Mk
namespace Mk
open PySem PySem.Spec PyProof.Rows L2
/-! ### a laying as it stands -/
structure Lp where
  S : Rules
  e : Nat
  n : Nat
  w : Nat
  A : List Arr
  many : Nat
  fw : Nat → Nat × Nat → Nat
  fa : Nat × Nat → Nat
def layFs (L : Lp) (aA aB aD Ja : Addr) (kv sv : V) : List (Str × V) := [("arrivals", .ref aA), ("by_ways", .ref aB), ("by_arrivals", .ref aD), ("many", .int (L.many : Nat)), ("kind", kv), ("small", sv), ("joins", .ref Ja)]
structure LayC (P : Program) (w : World) (K : PySem.W.Frag) (L : Lp) (x Ja dx aA aB aD : Addr) (xs bs : List V) (kv sv : V) (H : Hp) : Prop where
  ins : H x = some (.ins (cE K) dx (layFs L aA aB aD Ja kv sv))
  arr : SqL K H aA xs
  arrd : DpAll K H xs (L.A.map dArr)
  arrne : aA ≠ Ja
  byw : SqL K H aB bs
  bywne : aB ≠ Ja
  bywd : Alls ((List.range L.n).map fun s => rPk P w K (pairsL L.w) (L.fw s)) bs H
  bya : ND P w K H aD (pkv (pairsL L.A.length) L.fa)
  kind : (kindR K).on kv H
  small : (tabR K L.e L.n L.w L.S).on sv H
def LayOn (P : Program) (w : World) (K : PySem.W.Frag) (L : Lp) (x Ja : Addr) (H : Hp) : Prop := ∃ dx aA aB aD xs bs kv sv, LayC P w K L x Ja dx aA aB aD xs bs kv sv H
def Jn (K : PySem.W.Frag) (L : Lp) (H : Hp) (Ja : Addr) (J : List Tg) : Prop := J.length = L.w + L.many * 4 ∧ ∃ vs, H Ja = some (.lst vs) ∧ DpAll K H vs (J.map dTg)
section
variable {P : Program} {w : World} {K : PySem.W.Frag} {L : Lp} {x Ja dx aA aB aD : Addr} {xs bs : List V} {kv sv : V} {H H' : Hp} {J : List Tg}
theorem tup_Tg : ∀ t : Tg, tupOnly (dTg t) = true
  | .ex _ => rfl
  | .pw _ _ => rfl
theorem tup_Arr : ∀ q : Arr, tupOnly (dArr q) = true
  | (_, none) => rfl
  | (_, some _) => rfl
theorem but_pk {ps : List (Nat × Nat)} {f : Nat × Nat → Nat} : (rPk P w K ps f).But := fun v H H' d0 ys h e ⟨d, h1, h2⟩ => ⟨d, h1, h2.but e (noT_lst h) fun z => by
  obtain ⟨es, h3, _⟩ := h2
  rw [z, h] at h3
  cases h3⟩
theorem but_kind : (kindR K).But := but_I fun r hr => by
  simp only [kindF, List.mem_cons, List.not_mem_nil, or_false] at hr
  rcases hr with rfl | rfl
  · exact but_D (tup_all (fun _ => rfl) _)
  · exact but_V
theorem but_tab {e n w : Nat} {R : Rules} : (tabR K e n w R).But := but_I fun r hr => by
  simp only [tabF, List.mem_cons, List.not_mem_nil, or_false] at hr
  rcases hr with rfl | rfl | rfl | rfl
  · exact but_D rfl
  · exact but_D (tup_rulesT R)
  · exact but_D rfl
  · exact but_D rfl
theorem sql_but {d0 a : Addr} {ys : List V} (hne : a ≠ d0) (e : ExB d0 H H') (h : SqL K H a ys) : SqL K H' a ys := by
  rcases h with (h | ⟨o, h⟩) | h
  · exact .inl (.inl (e _ _ hne h))
  · exact .inl (.inr ⟨o, e _ _ hne h⟩)
  · exact .inr h
theorem LayC.but {ys : List V} (I : LayC P w K L x Ja dx aA aB aD xs bs kv sv H) (h : H Ja = some (.lst ys)) (e : ExB Ja H H') : LayC P w K L x Ja dx aA aB aD xs bs kv sv H' where
  ins := e _ _ (fun z => by have := I.ins; rw [z, h] at this; cases this) I.ins
  arr := sql_but I.arrne e I.arr
  arrd := dpa_but (fun _ _ q => sqt_but e (noT_lst h) q) _ _ (tup_all tup_Arr _) I.arrd
  arrne := I.arrne
  byw := sql_but I.bywne e I.byw
  bywne := I.bywne
  bywd := Alls.but h e (fun r hr => by obtain ⟨s, _, rfl⟩ := List.mem_map.mp hr; exact but_pk) I.bywd
  bya := I.bya.but e (noT_lst h) fun z => by
    obtain ⟨es, h3, _⟩ := I.bya
    rw [z, h] at h3
    cases h3
  kind := but_kind _ _ _ _ _ h e I.kind
  small := but_tab _ _ _ _ _ h e I.small
theorem LayC.ex (I : LayC P w K L x Ja dx aA aB aD xs bs kv sv H) (e : Ex H H') : LayC P w K L x Ja dx aA aB aD xs bs kv sv H' :=
  ⟨e _ _ I.ins, sql_ex e I.arr, dpa_ex e _ _ I.arrd, I.arrne, sql_ex e I.byw, I.bywne, I.bywd.up e, I.bya.ex e, (kindR K).up e I.kind, (tabR K L.e L.n L.w L.S).up e I.small⟩
theorem LayOn.but {ys : List V} (I : LayOn P w K L x Ja H) (h : H Ja = some (.lst ys)) (e : ExB Ja H H') : LayOn P w K L x Ja H' := let ⟨a, b, c, d, f, g, i, j, I⟩ := I; ⟨a, b, c, d, f, g, i, j, I.but h e⟩
theorem LayOn.ex (I : LayOn P w K L x Ja H) (e : Ex H H') : LayOn P w K L x Ja H' := let ⟨a, b, c, d, f, g, i, j, I⟩ := I; ⟨a, b, c, d, f, g, i, j, I.ex e⟩
theorem Jn.ex (h : Jn K L H Ja J) (e : Ex H H') : Jn K L H' Ja J := let ⟨l, vs, h1, h2⟩ := h; ⟨l, vs, e _ _ h1, dpa_ex e _ _ h2⟩
theorem Jn.lst (h : Jn K L H Ja J) : ∃ vs, H Ja = some (.lst vs) := let ⟨_, vs, h1, _⟩ := h; ⟨vs, h1⟩
theorem LayOn.butJ (I : LayOn P w K L x Ja H) (h : Jn K L H Ja J) (e : ExB Ja H H') : LayOn P w K L x Ja H' := let ⟨_, h1⟩ := h.lst; I.but h1 e
theorem dp_butJ {d : PyData} {v : V} (h : Jn K L H Ja J) (e : ExB Ja H H') (t : tupOnly d = true) (q : Dp K H v d) : Dp K H' v d := let ⟨_, h1⟩ := h.lst; dp_but (fun _ _ k => sqt_but e (noT_lst h1) k) d v t q
theorem dpa_butJ {ds : List PyData} {vs : List V} (h : Jn K L H Ja J) (e : ExB Ja H H') (t : tupOnlyAll ds = true) (q : DpAll K H vs ds) : DpAll K H' vs ds := let ⟨_, h1⟩ := h.lst; dpa_but (fun _ _ k => sqt_but e (noT_lst h1) k) ds vs t q
theorem dpa_set {d : PyData} {v : V} (hv : Dp K H v d) : ∀ {vs : List V} {ds : List PyData} (j : Nat), DpAll K H vs ds → DpAll K H (vs.set j v) (ds.set j d)
  | _, [], j, h => by cases h; exact .nil
  | _, _ :: _, 0, h => by
    cases h with
    | cons h1 h2 => exact .cons hv h2
  | _, _ :: ds, j + 1, h => by
    cases h with
    | cons h1 h2 => exact .cons h1 (dpa_set hv j h2)
/-- a field of an instance at x -/
theorem ev_ins {σ : L2.St} {i : Nat} {C : Addr} {fs : List (Str × V)} {f : Str} {v : V} (hx : σ[i]? = some (some (.ref x))) (h : H x = some (.ins C dx fs)) (c : Cls K C) (n : NoAttr K C f) (e : fs.lookup f = some v) : Evl.Ev (tFld K (tVar i) f) σ H v := fun H1 e1 Q q =>
  ⟨.ref x, hx, x, C, dx, fs, v, rfl, e1 _ _ h, c, n, e, q H1 Ex.rfl'⟩
/-- a method's call, its arguments exact -/
theorem meth_sp {σ : L2.St} {C : Addr} {m : Str} {sp : Sp} {ta : TE} {tt : TA} {vs : List V} {fs : List (Str × V)} {Q : VK} (hx : Evl.Ev ta σ H (.ref x)) (h : H x = some (.ins C dx fs)) (hm : fs.lookup m = none) (ha : Evl.EvA tt σ H vs) (k : ∀ H1, Ex H H1 → sp (.ref x :: vs) H1 Q E0) :
    tMeth C m sp [] E0 ta tt σ H Q := hx H Ex.rfl' _ fun H1 e1 => ⟨x, dx, fs, rfl, e1 _ _ h, hm, ha H1 e1 _ fun H2 e2 => by rw [List.append_nil]; exact k H2 (Ex.tr e1 e2)⟩
theorem call_sp {σ : L2.St} {sp : Sp} {tt : TA} {vs : List V} {Q : VK} (ha : Evl.EvA tt σ H vs) (k : ∀ H1, Ex H H1 → sp vs H1 Q E0) : tCall sp [] E0 tt σ H Q := ha H Ex.rfl' _ fun H1 e1 => by rw [List.append_nil]; exact k H1 e1
end
theorem q_for3 {σ : L2.St} {H : Hp} {D : Ends} {tz tu : TS} {ta : TA} {i0 j0 c0 : Int} {n : Nat} {g : TG} (h : Evl.EvA ta σ H [.int i0, .int j0, .int c0]) (hr : RgC i0 j0 c0 n) (Pv : Nat → L2.St → Hp → Prop) (h0 : ∀ H2, Ex H H2 → Pv 0 σ H2)
    (hs : ∀ i σ' H', i < n → Pv i σ' H' → g (.int (i0 + (i : Nat) * c0)) σ' H' fun σ2 H3 => tu { D with nx := Pv (i + 1), ct := Pv (i + 1), bk := tz D } σ2 H3) (hd : ∀ σ' H', Pv n σ' H' → tz D σ' H') : tSeq (tFor (iRng3 ta) g tu) tz D σ H :=
  h H Ex.rfl' _ fun H2 e2 => ⟨_, _, _, _, rfl, hr, for_it walk_rangeC (D := { D with nx := tz D }) Pv (h0 H2 e2) (fun _ _ _ _ _ => trivial) (fun i x σ' H' H'' hi p y => by
    obtain ⟨rfl, rfl⟩ := y
    exact hs i σ' _ hi p) hd⟩
/-! ### the promises -/
def SpLed (P : Program) (w : World) (K : PySem.W.Frag) : Sp := fun vs H Q E => ∃ L x Ja J p c t tv, vs = [.ref x, .int ((p : Nat) : Int), .int ((c : Nat) : Int), tv] ∧ LayOn P w K L x Ja H ∧ Jn K L H Ja J ∧ Dp K H tv (dTg t) ∧ p < L.many ∧ c < 4 ∧ ∀ H', ExB Ja H H' → Jn K L H' Ja (led L.w J p c t) → Q .non H'
def SpLooked (P : Program) (w : World) (K : PySem.W.Frag) : Sp := fun vs H Q E => ∃ L x Ja J p u t uv tv, vs = [.ref x, .int ((p : Nat) : Int), uv, tv] ∧ LayOn P w K L x Ja H ∧ Jn K L H Ja J ∧ Dp K H uv (dTg u) ∧ Dp K H tv (dTg t) ∧ p < L.many ∧
  ∀ v H', ExB Ja H H' → Jn K L H' Ja (looked L.w J p u t) → Dp K H' v (dTg (.pw p 0)) → Q v H'
def SpMarked (P : Program) (w : World) (K : PySem.W.Frag) : Sp := fun vs H Q E => ∃ L x Ja J a ms t tv, vs = [.ref x, .ref a, tv] ∧ LayOn P w K L x Ja H ∧ Jn K L H Ja J ∧ a ≠ Ja ∧ (∃ xs, SqL K H a xs ∧ DpAll K H xs (ms.map dMark)) ∧ Dp K H tv (dTg t) ∧ (∀ m ∈ ms, m.1 < L.many ∧ m.2 < 3) ∧ ms.length ≤ 90000 ∧
  ∀ v H', ExB Ja H H' → Jn K L H' Ja (marked L.w J ms t).1 → Dp K H' v (dTg (marked L.w J ms t).2) → Q v H'
def SpLatest (P : Program) (w : World) (K : PySem.W.Frag) : Sp := fun vs H Q E => ∃ L x Ja J a ts f tv, vs = [.ref x, .ref a, tv] ∧ LayOn P w K L x Ja H ∧ Jn K L H Ja J ∧ ND P w K H a (pkv (pairsL ts.length) f) ∧ Dp K H tv (.list (ts.map dTg)) ∧ (∀ q ∈ pairsL ts.length, f q < L.many) ∧ 1 ≤ ts.length ∧ ts.length ≤ 90000 ∧
  ∀ v H', ExB Ja H H' → Jn K L H' Ja (latest L.w (fun i j => f (i, j)) J ts).1 → Dp K H' v (dTg (latest L.w (fun i j => f (i, j)) J ts).2) → Q v H'
end Mk
namespace Mk
open PySem PySem.Spec PyProof.Rows L2

/-! ### Laying.led -/
abbrev N_Laying_led : List Str := ["self", "piece", "number", "target"]
theorem sc_Laying_led : FnScope N_Laying_led ["self", "piece", "number", "target"] (defScope s_Laying_led) := ⟨rfl, rfl, rfl, by decide +kernel, rfl, by decide +kernel, by decide +kernel⟩

theorem ok_Laying_led {P : Program} {w : World} {K : PySem.W.Frag} {mg : Str → Option Value} {base : Heap} (T : Txt K mg) : CalM P w K mg base (He.ga K "EveryLaying") "led" 1 ["self", "piece", "number", "target"] (SpLed P w K) := by
  refine meth_of (st := s_Laying_led) T.cl_EveryLaying T.m_EveryLaying_led (T.d.def_ 40 rfl) (fun _ _ _ _ _ _ us hl => match us, hl with | [_, _, _, _], _ => rfl) sc_Laying_led (fun vs H Q E hsp => by obtain ⟨_, _, _, _, _, _, _, _, rfl, _⟩ := hsp; rfl) fun cdv A outer s H vs Q E hr hsp => ?_
  have hu := hr.units
  have hu0 := hu_of hr
  have hu65 := hu65_of hr
  refine ⟨_, (pss_one (ps_asg (pv 3) (pg_sub (pe_fld (pv 0) rfl) (pe_op op_add (pe_op op_add (pe_fld (pe_fld (pv 0) rfl) rfl) (pe_op op_mul (pv 1) (pe_fld (pe_fld (pv 0) rfl) rfl))) (pv 2)) set_list))), ?_⟩

  obtain ⟨L, x, Ja, J, p, c, t, tv, rfl, I, hJ, ht, hp, hc, hQ⟩ := hsp
  obtain ⟨dx, aA, aB, aD, xs, bs, kv, sv, I⟩ := I
  obtain ⟨hl, vs, h1, h2⟩ := hJ
  have hvl : vs.length = J.length := by have := dpa_len h2; rwa [List.length_map] at this
  have kex : GD (tFld K (tFld K (tVar 0) "kind") "exits") (start N_Laying_led [.ref x, .int ((p : Nat) : Int), .int ((c : Nat) : Int), tv]) H (rV (.int 4)) := gd_fld (gd_ev (ev_ins (i := 0) rfl I.ins T.cl_EveryLaying T.n_EveryLaying_kind rfl) I.kind) T.cl_Kind T.n_Kind_exits
  have sex : GD (tFld K (tFld K (tVar 0) "small") "ways") (start N_Laying_led [.ref x, .int ((p : Nat) : Int), .int ((c : Nat) : Int), tv]) H (rD K (.int L.w)) := gd_fld (gd_ev (ev_ins (i := 0) rfl I.ins T.cl_EveryLaying T.n_EveryLaying_small rfl) I.small) T.cl_Table T.n_Table_ways
  refine Evl.s_setL (j := L.w + p * 4 + c) h1 (Evl.ev_var rfl) (ev_ins (i := 0) rfl I.ins T.cl_EveryLaying T.n_EveryLaying_joins rfl) (Evl.ev_is (Evl.ev_op (Evl.ev_op (gd_int sex) (Evl.ev_op (Evl.ev_var rfl) (ev_gd kex) (Evl.rv_I (.inr (by omega)))) Evl.rv_I0) (Evl.ev_var rfl) Evl.rv_I0) (by show V.int _ = V.int _; congr 1)) (by omega) (fun H1 e1 => ?_)
  have hu := ExB.upd Ja H1 (.lst (vs.set (L.w + p * 4 + c) tv))
  refine hQ _ ((Ex.but e1).tr hu) ⟨led_len.trans hl, _, upd_same, ?_⟩
  unfold led
  rw [List.map_set]
  have hn := noT_lst (e1 _ _ h1)
  exact dpa_set (dp_but (fun _ _ k => sqt_but hu hn k) _ _ (tup_Tg t) (dp_ex e1 _ _ ht)) _ (dpa_but (fun _ _ k => sqt_but hu hn k) _ _ (tup_all tup_Tg _) (dpa_ex e1 _ _ h2))
/-! ### Laying.looked -/
abbrev N_Laying_looked : List Str := ["self", "piece", "unset", "told"]
theorem sc_Laying_looked : FnScope N_Laying_looked ["self", "piece", "unset", "told"] (defScope s_Laying_looked) := ⟨rfl, rfl, rfl, by decide +kernel, rfl, by decide +kernel, by decide +kernel⟩

theorem ok_Laying_looked {P : Program} {w : World} {K : PySem.W.Frag} {mg : Str → Option Value} {base : Heap} (T : Txt K mg) : CalM P w K mg base (He.ga K "EveryLaying") "looked" 2 ["self", "piece", "unset", "told"] (SpLooked P w K) := by
  refine meth_of (st := s_Laying_looked) T.cl_EveryLaying T.m_EveryLaying_looked (T.d.def_ 42 rfl) (fun _ _ _ _ _ _ us hl => match us, hl with | [_, _, _, _], _ => rfl) sc_Laying_looked (fun vs H Q E hsp => by obtain ⟨_, _, _, _, _, _, _, _, _, rfl, _⟩ := hsp; rfl) fun cdv A outer s H vs Q E hr hsp => ?_
  have hu := hr.units
  have hu0 := hu_of hr
  have hu65 := hu65_of hr
  refine ⟨_, (pss_cons (ps_expr (pe_calM (ok_Laying_led (P := P) (w := w) (base := base) T) (hr.mono (by decide)) (pv 0) (pa_cons (pv 1) (pa_cons pe_int (pa_cons (pv 2) pa_nil)))))
      (pss_cons (ps_expr (pe_calM (ok_Laying_led (P := P) (w := w) (base := base) T) (hr.mono (by decide)) (pv 0) (pa_cons (pv 1) (pa_cons pe_int (pa_cons (pv 3) pa_nil)))))
      (pss_one (ps_ret (pe_tup (pa_cons (pv 1) (pa_cons (pe_gint rfl T.i_LOOK) pa_nil))))))), ?_⟩

  obtain ⟨L, x, Ja, J, p, u, t, uv, tv, rfl, I, hJ, hu1, ht, hp, hQ⟩ := hsp
  have I0 := I
  obtain ⟨dx, aA, aB, aD, xs, bs, kv, sv, Ic⟩ := I0
  refine meth_sp (vs := [.int ((p : Nat) : Int), .int ((0 : Nat) : Int), uv]) (Evl.ev_var rfl) Ic.ins rfl (Evl.ea_cons (Evl.ev_var rfl) (Evl.ea_cons Evl.ev_c (Evl.ea_cons (Evl.ev_var rfl) Evl.ea_nil))) (fun H1 e1 => ⟨L, x, Ja, J, p, 0, u, uv, rfl, I.ex e1, hJ.ex e1, dp_ex e1 _ _ hu1, hp, by omega, fun H2 b2 hJ2 => ?_⟩)
  have I2 := (I.ex e1).butJ (hJ.ex e1) b2
  have I20 := I2
  obtain ⟨dx, aA, aB, aD, xs, bs, kv, sv, Ic2⟩ := I20
  refine meth_sp (vs := [.int ((p : Nat) : Int), .int ((1 : Nat) : Int), tv]) (Evl.ev_var rfl) Ic2.ins rfl (Evl.ea_cons (Evl.ev_var rfl) (Evl.ea_cons Evl.ev_c (Evl.ea_cons (Evl.ev_var rfl) Evl.ea_nil))) (fun H3 e3 => ⟨L, x, Ja, _, p, 1, t, tv, rfl, I2.ex e3, hJ2.ex e3, dp_ex e3 _ _ (dp_butJ (hJ.ex e1) b2 (tup_Tg t) (dp_ex e1 _ _ ht)), hp, by omega, fun H4 b4 hJ4 => ?_⟩)
  obtain ⟨t0, ht0⟩ := T.i_LOOK
  exact g_ret (gd_tup (ds := [.int (p : Nat), .int ((0 : Nat) : Int)]) (ga_int (Evl.ev_var rfl) (ga_int Evl.ev_c ga_nil)) (by simp)) (fun v H5 e5 hv => hQ v H5 ((((Ex.but e1).tr b2).tr (Ex.but e3)).tr (b4.tr (Ex.but e5))) (hJ4.ex e5) hv)
/-! ### Laying.marked -/
abbrev N_Laying_marked : List Str := ["self", "marks", "target", "piece", "way"]
theorem sc_Laying_marked : FnScope N_Laying_marked ["self", "marks", "target"] (defScope s_Laying_marked) := ⟨rfl, rfl, rfl, by decide +kernel, rfl, by decide +kernel, by decide +kernel⟩

theorem ok_Laying_marked {P : Program} {w : World} {K : PySem.W.Frag} {mg : Str → Option Value} {base : Heap} (T : Txt K mg) : CalM P w K mg base (He.ga K "EveryLaying") "marked" 3 ["self", "marks", "target"] (SpMarked P w K) := by
  refine meth_of (st := s_Laying_marked) T.cl_EveryLaying T.m_EveryLaying_marked (T.d.def_ 41 rfl) (fun _ _ _ _ _ _ us hl => match us, hl with | [_, _, _], _ => rfl) sc_Laying_marked (fun vs H Q E hsp => by obtain ⟨_, _, _, _, _, _, _, _, rfl, _⟩ := hsp; rfl) fun cdv A outer s H vs Q E hr hsp => ?_
  have hu := hr.units
  have hu0 := hu_of hr
  have hu65 := hu65_of hr
  refine ⟨_, (pss_cons (ps_for PassesOwn.never rfl (pi_reversed rfl T.f_reversed (pa_cons (pv 1) pa_nil)) (pg_tup rfl (pgs_cons (pg_name (i := 3) sc_Laying_marked.nd rfl (Or.inl rfl)) (pgs_cons (pg_name (i := 4) sc_Laying_marked.nd rfl (Or.inl rfl)) pgs_nil)))
      (pss_cons (ps_expr (pe_calM (ok_Laying_led (P := P) (w := w) (base := base) T) (hr.mono (by decide)) (pv 0) (pa_cons (pv 3) (pa_cons (pe_cal (ok_first_of (P := P) (w := w) (base := base) T) (hr.mono (by decide)) rfl (pa_cons (pe_fld (pv 0) rfl) (pa_cons (pv 4) pa_nil))) (pa_cons (pv 2) pa_nil)))))
      (pss_one (ps_set (i := 2) sc_Laying_marked.nd rfl (Or.inl rfl) (pe_tup (pa_cons (pv 3) (pa_cons (pv 4) pa_nil)))))))
      (pss_one (ps_ret (pv 2)))), ?_⟩

  obtain ⟨L, x, Ja, J, a, ms, t, tv, rfl, I, hJ, hne, ⟨xs, hxs, hxd⟩, ht, hms, hml, hQ⟩ := hsp
  have hl : xs.length = ms.length := by have := dpa_len hxd; rwa [List.length_map] at this
  refine ⟨.ref a, rfl, a, xs, rfl, hxs, ?_⟩
  refine for_it (walk_rev (K := K) (a := a) (xs := xs)) (fun i σ' H' => ∃ v x3 x4, σ' = [some (.ref x), some (.ref a), some v, x3, x4] ∧ ExB Ja H H' ∧ Jn K L H' Ja ((ms.reverse.take i).foldl (markStep L.w) (J, t)).1 ∧ Dp K H' v (dTg ((ms.reverse.take i).foldl (markStep L.w) (J, t)).2)) ⟨tv, _, _, rfl, ExB.refl _ _, hJ, ht⟩ (fun i σ' H' _ z => by obtain ⟨_, _, _, _, b, _⟩ := z; exact sql_but hne b hxs) ?_ ?_
  · rintro i y σ' H2 H3 hi ⟨v, x3, x4, rfl, b2, hJ2, hv2⟩ ⟨rfl, hy⟩
    obtain ⟨m, hm, hmd⟩ := dpa_getV hxd hy
    rw [List.getElem?_map] at hm
    cases hmm : ms[xs.length - 1 - i]? with
    | none => rw [hmm] at hm; cases hm
    | some q =>
      rw [hmm] at hm
      cases hm
      have hrev : ms.reverse[i]? = some q := by
        rw [List.getElem?_reverse (by omega), ← hl]
        exact hmm
      have hq := hms q (List.mem_of_getElem? hmm)
      have I2 := I.butJ hJ b2
      have I20 := I2
      obtain ⟨dx, aA, aB, aD, xs', bs, kv, sv, Ic2⟩ := I20
      refine gtup2 (dp_butJ hJ b2 rfl hmd) fun y1 y2 hy1 hy2 => ?_
      obtain rfl := dp_int hy1
      obtain rfl := dp_int hy2
      refine meth_sp (vs := [.int (q.1 : Nat), .int (fst3 q.2 : Nat), v]) (Evl.ev_var rfl) Ic2.ins rfl (Evl.ea_cons (Evl.ev_var rfl) (Evl.ea_cons (ev_call (rel := rel_first_of K) (ga_cons (gd_ev (ev_ins (i := 0) rfl Ic2.ins T.cl_EveryLaying T.n_EveryLaying_kind rfl) Ic2.kind) (ga_int (Evl.ev_var rfl) ga_nil)) (.mk q.2 hq.2)) (Evl.ea_cons (Evl.ev_var rfl) Evl.ea_nil))) (fun H4 e4 => ⟨L, x, Ja, _, q.1, fst3 q.2, _, v, rfl, I2.ex e4, hJ2.ex e4, dp_ex e4 _ _ hv2, hq.1, by unfold fst3; split <;> omega, fun H5 b5 hJ5 => ?_⟩)
      have et : (ms.reverse.take (i + 1)).foldl (markStep L.w) (J, t) = markStep L.w ((ms.reverse.take i).foldl (markStep L.w) (J, t)) q := by
        rw [List.take_succ, hrev, List.foldl_append]
        rfl
      refine g_asg' (gd_tup (K := K) (ds := [.int (q.1 : Nat), .int (q.2 : Nat)]) (ga_int (Evl.ev_var rfl) (ga_int (Evl.ev_var rfl) ga_nil)) (by simp)) (fun v' H6 e6 hv' => ⟨v', _, _, rfl, (b2.tr (Ex.but e4)).tr (b5.tr (Ex.but e6)), ?_, ?_⟩)
      · rw [et]
        exact hJ5.ex e6
      · rw [et]
        exact hv'
  · rintro σ' H2 ⟨v, x3, x4, rfl, b2, hJ2, hv2⟩
    have et : ms.reverse.take xs.length = ms.reverse := List.take_of_length_le (by rw [List.length_reverse, hl]; exact Nat.le_refl _)
    rw [et] at hJ2 hv2
    exact Evl.s_ret (Evl.ev_var rfl) (fun H3 e3 => hQ _ _ (b2.tr (Ex.but e3)) (hJ2.ex e3) (dp_ex e3 _ _ hv2))
/-! ### latest -/
abbrev N_latest : List Str := ["laying", "pieces", "tracks", "found", "number", "one"]
theorem sc_latest : FnScope N_latest ["laying", "pieces", "tracks"] (defScope s_latest) := ⟨rfl, rfl, rfl, by decide +kernel, rfl, by decide +kernel, by decide +kernel⟩
theorem tgAt_get {K : PySem.W.Frag} {H : Hp} {vs : List V} {ts : List Tg} {i : Nat} (h : DpAll K H vs (ts.map dTg)) (hi : i < ts.length) : ∃ v, vs[i]? = some v ∧ Dp K H v (dTg (tgAt ts i)) := by
  refine dpa_get h ?_
  rw [List.getElem?_map, List.getElem?_eq_getElem hi]
  simp [tgAt, List.getElem?_eq_getElem hi]
theorem ok_latest {P : Program} {w : World} {K : PySem.W.Frag} {mg : Str → Option Value} {base : Heap} (T : Txt K mg) : Cal P w K mg base "latest" 3 ["laying", "pieces", "tracks"] [] (SpLatest P w K) := by
  refine cal_of (st := s_latest) T.g_latest (T.d.def_ 20 rfl) (fun _ _ _ _ _ _ us hl => match us, hl with | [_, _, _], _ => rfl) sc_latest (fun vs H Q E hsp => by obtain ⟨_, _, _, _, _, _, _, _, rfl, _⟩ := hsp; rfl) fun cdv A outer s H vs Q E hr hsp => ?_
  have hu := hr.units
  have hu0 := hu_of hr
  have hu65 := hu65_of hr
  refine ⟨_, (pss_cons (ps_set (i := 3) sc_latest.nd rfl (Or.inr rfl) (pe_callTy (T := "list") call_list_of (by rfl) T.f_list (by decide +kernel) (pa_cons (pv 2) pa_nil)))
      (pss_cons (ps_for PassesOwn.never rfl (pi_range3 rfl T.f_range (pa_cons (pe_op op_sub (pe_callB (id := "len") call_len_seq (by rfl) T.f_len PySem.boot_len (pa_cons (pv 2) pa_nil)) pe_int) (pa_cons pe_int (pa_cons (pe_un un_neg pe_int) pa_nil)))) (pg_name (i := 4) sc_latest.nd rfl (Or.inr rfl))
      (pss_one (ps_set (i := 3) sc_latest.nd rfl (Or.inr rfl) (pe_lc rfl sc_latest.nd (pi_range1 rfl T.f_range (pa_cons (pv 4) pa_nil)) (blkOk_by (own := [("one", 5)]) rfl) (fun _ _ _ _ _ => (pg_name (i := 5) sc_latest.nd rfl (Or.inl rfl))) (fun _ _ _ _ _ => pts_nil) (fun _ _ _ _ _ => (pe_calM (ok_Laying_looked (P := P) (w := w) (base := base) T) (hr.mono (by decide)) (pv 0) (pa_cons (show PE _ _ (tNGet P w K _ _) from (pe_nget hu (pv 1) (pe_tup (pa_cons (pv 5) (pa_cons (pv 4) pa_nil))) (fun _ _ => rfl))) (pa_cons (show PE _ _ (tOp (rIxL K) _ _) from (pe_ix ix_list (pv 3) (pv 4) (fun _ _ => rfl))) (pa_cons (show PE _ _ (tOp (rIxL K) _ _) from (pe_ix ix_list (pv 3) (pv 5) (fun _ _ => rfl))) pa_nil)))))))))
      (pss_one (ps_ret (pe_ix ix_list (pv 3) pe_int (fun _ _ => rfl)))))), ?_⟩

  obtain ⟨L, x, Ja, J, a, ts, f, tv, rfl, I, hJ, nd, ht, hf, h1, hz, hQ⟩ := hsp
  have hpc : ∀ c k, c < k → k < ts.length → (c, k) ∈ pairsL ts.length := fun c k h h2 => mem_pairsL.mpr ⟨h, h2⟩
  obtain ⟨at_, vt, rfl, hs, hd⟩ := dp_lst ht
  refine ⟨.ref at_, rfl, at_, vt, rfl, .inl hs, fun fo hfo => ?_⟩
  obtain ⟨vj, hvj⟩ := hJ.lst
  have hfne : fo ≠ Ja := fun z => by rw [z, hvj] at hfo; cases hfo
  have e1 : Ex H (upd H fo (.lst vt)) := Ex.nw hfo
  have hlen : vt.length = ts.length := by have := dpa_len hd; rwa [List.length_map] at this
  have hta : Evl.EvA (tCons (tOp (rI0 fun i j => .int (i - j)) (tCB (fun xs H Q => ∃ p ys, xs = [.ref p] ∧ (SqL K H p ys ∨ SqT K H p ys) ∧ Q (.int ys.length) H) (tCons (tVar 2) tNil)) (tC (.int 1))) (tCons (tC (.int 0)) (tCons (tUn (rU fun i => .int (-i)) (tC (.int 1))) tNil))) ((start N_latest [.ref x, .ref a, .ref at_]).set 3 (some (.ref fo))) (upd H fo (.lst vt)) [.int (((ts.length - 1 : Nat) : Int)), .int 0, .int (-1)] :=
    Evl.ea_cons (Evl.ev_is (Evl.ev_op (ev_lenS (gd_v (i := 2) rfl (dp_ex e1 _ _ ht)) (.inl rfl)) Evl.ev_c Evl.rv_I0) (by rw [List.length_map]; show V.int _ = V.int _; congr 1; omega)) (Evl.ea_cons Evl.ev_c (Evl.ea_cons (Evl.ev_un Evl.ev_c Evl.ru_neg) Evl.ea_nil))
  have hn : (((ts.length - 1 : Nat) : Int) - 0).toNat = ts.length - 1 := by omega
  have hrg := RgC.neg (i := ((ts.length - 1 : Nat) : Int)) (j := 0) (by omega) (by omega) (by omega) (by omega)
  rw [hn] at hrg
  refine q_for3 hta hrg (fun i σ' H' => ∃ fo vs x4 x5, σ' = [some (.ref x), some (.ref a), some (.ref at_), some (.ref fo), x4, x5] ∧ fo ≠ Ja ∧ ExB Ja H H' ∧ Jn K L H' Ja (latestA L.w (fun i j => f (i, j)) J ts i).1 ∧ H' fo = some (.lst vs) ∧ DpAll K H' vs ((latestA L.w (fun i j => f (i, j)) J ts i).2.map dTg)) (fun H2 e2 => ⟨fo, vt, _, _, rfl, hfne, Ex.but (Ex.tr e1 e2), hJ.ex (Ex.tr e1 e2), e2 _ _ upd_same, dpa_ex (Ex.tr e1 e2) _ _ hd⟩) ?_ ?_
  · rintro i σ' H4 hi ⟨fo, vs, x4, x5, rfl, hfne, b3, hJ3, hfo3, hv3⟩
    have hk : V.int (((ts.length - 1 : Nat) : Int) + (i : Nat) * -1) = .int ((ts.length - 1 - i : Nat) : Int) := by
      congr 1
      omega
    rw [hk]
    obtain ⟨kk, hkk⟩ : ∃ kk, kk = ts.length - 1 - i := ⟨_, rfl⟩
    rw [← hkk]
    have hkt : kk < ts.length := by omega
    have hA : (latestA L.w (fun i j => f (i, j)) J ts i).2.length = ts.length - i := (latestA_len i (by omega)).2
    have stepE : latestA L.w (fun i j => f (i, j)) J ts (i + 1) = stage L.w (fun i j => f (i, j)) kk (latestA L.w (fun i j => f (i, j)) J ts i) := by
      unfold latestA
      rw [List.range_succ, List.foldl_append, hkk]
      rfl
    refine ⟨.int (kk : Nat), rfl, (kk : Int), rfl, by omega, by omega, fun Dl hDl => ?_⟩
    obtain ⟨vj3, hvj3⟩ := hJ3.lst
    have hDne : Dl ≠ Ja := fun z => by rw [z, hvj3] at hDl; cases hDl
    rw [Int.toNat_natCast]
    refine lc_it (walk_range (lo := 0) (n := kk)) (fun c H' => ExB Ja H4 H' ∧ Jn K L H' Ja ((List.range c).foldl (stageStep L.w (fun i j => f (i, j)) kk (latestA L.w (fun i j => f (i, j)) J ts i).2) ((latestA L.w (fun i j => f (i, j)) J ts i).1, [])).1 ∧ ∃ us, H' Dl = some (.lst us) ∧ DpAll K H' us (((List.range c).foldl (stageStep L.w (fun i j => f (i, j)) kk (latestA L.w (fun i j => f (i, j)) J ts i).2) ((latestA L.w (fun i j => f (i, j)) J ts i).1, [])).2.map dTg)) ⟨Ex.but (Ex.nw hDl), hJ3.ex (Ex.nw hDl), [], upd_same, .nil⟩ (fun _ _ _ _ => trivial) ?_ ?_
    · rintro c y H5 H6 hc ⟨b5, hJ5, us, hus, hud⟩ ⟨rfl, hy⟩
      have hy : y = .int (c : Nat) := by rw [hy]; show V.int _ = V.int _; rw [Int.zero_add]
      subst hy
      refine ⟨rfl, ?_⟩
      simp only [tYes, if_true]
      have b06 := b3.tr b5
      have I6 := I.butJ hJ b06
      have I60 := I6
      obtain ⟨dx, aA, aB, aD, xs', bs, kv, sv, Ic6⟩ := I60
      have hfo6 := b5 _ _ hfne hfo3
      have hv6 := dpa_butJ hJ3 b5 (tup_all tup_Tg _) hv3
      obtain ⟨vk, hvk1, hvk2⟩ := tgAt_get hv6 (i := kk) (by omega)
      obtain ⟨vc, hvc1, hvc2⟩ := tgAt_get hv6 (i := c) (by omega)
      have nd6 : ND P w K H6 a (pkv (pairsL ts.length) f) := nd.but b06 (noT_lst hvj) (fun z => by
        obtain ⟨es, h3, _⟩ := nd
        rw [z, hvj] at h3
        cases h3)
      refine meth_sp (vs := [.int (f (c, kk) : Nat), vk, vc]) (Evl.ev_var rfl) Ic6.ins rfl (Evl.ea_cons (ev_ngetG (k := pairK (c, kk)) (Evl.ev_var rfl) (gd_tup (ds := [.int (c : Nat), .int (kk : Nat)]) (ga_int (Evl.ev_var rfl) (ga_int (Evl.ev_var rfl) ga_nil)) (by simp)) nd6 (pair_depth _) ⟨_, rfl⟩ (pkv_get (hpc c kk hc hkt))) (Evl.ea_cons (Evl.ev_op (Evl.ev_var rfl) (Evl.ev_var rfl) (Evl.rv_ixL (Evl.sq_of hfo6) (atI_nat hvk1))) (Evl.ea_cons (Evl.ev_op (Evl.ev_var rfl) (Evl.ev_var rfl) (Evl.rv_ixL (Evl.sq_of hfo6) (atI_nat hvc1))) Evl.ea_nil))) (fun H7 e7 => ⟨L, x, Ja, _, f (c, kk), _, _, vk, vc, rfl, I6.ex e7, hJ5.ex e7, dp_ex e7 _ _ hvk2, dp_ex e7 _ _ hvc2, hf _ (hpc c kk hc hkt), fun v H8 b8 hJ8 hv8 => ?_⟩)
      have hD8 : H8 Dl = some (.lst us) := b8 _ _ hDne (e7 _ _ hus)
      have hu8 := ExB.upd Dl H8 (.lst (us ++ [v]))
      have hn8 := noT_lst hD8
      refine ⟨us, hD8, ?_, ?_⟩
      · refine Evl.sz_lt ?_
        have q1 := dpa_len hud
        rw [List.length_map] at q1
        have q2 : ((List.range c).foldl (stageStep L.w (fun i j => f (i, j)) kk (latestA L.w (fun i j => f (i, j)) J ts i).2) ((latestA L.w (fun i j => f (i, j)) J ts i).1, [])).2.length = c := by
          have key : ∀ (l : List Nat) (b : List Tg × List Tg), (l.foldl (stageStep L.w (fun i j => f (i, j)) kk (latestA L.w (fun i j => f (i, j)) J ts i).2) b).2.length = b.2.length + l.length := by
            intro l
            induction l with
            | nil => intro b; rfl
            | cons m l ih =>
              intro b
              rw [List.foldl_cons, ih]
              show (b.2 ++ [_]).length + l.length = _
              simp
              omega
          rw [key]
          simp
        omega
      · have et : (List.range (c + 1)).foldl (stageStep L.w (fun i j => f (i, j)) kk (latestA L.w (fun i j => f (i, j)) J ts i).2) ((latestA L.w (fun i j => f (i, j)) J ts i).1, []) = stageStep L.w (fun i j => f (i, j)) kk (latestA L.w (fun i j => f (i, j)) J ts i).2 ((List.range c).foldl (stageStep L.w (fun i j => f (i, j)) kk (latestA L.w (fun i j => f (i, j)) J ts i).2) ((latestA L.w (fun i j => f (i, j)) J ts i).1, [])) c := by
          rw [List.range_succ, List.foldl_append]
          rfl
        have hud8 := dpa_butJ (hJ5.ex e7) b8 (tup_all tup_Tg _) (dpa_ex e7 _ _ hud)
        obtain ⟨hl8, vs8, hj81, hj82⟩ := hJ8
        refine ⟨?_, ⟨?_, vs8, ?_, ?_⟩, us ++ [v], upd_same, ?_⟩
        · intro z o hz ho
          have ho6 := b5 z o hz ho
          have hzD : z ≠ Dl := fun q => by rw [q, hDl] at ho; cases ho
          exact hu8 _ _ hzD (b8 _ _ hz (e7 _ _ ho6))
        · rw [et]
          exact hl8
        · rw [upd_ne (Ne.symm hDne)]
          exact hj81
        · rw [et]
          exact dpa_but (fun _ _ q => sqt_but hu8 hn8 q) _ _ (tup_all tup_Tg _) hj82
        · rw [et]
          show DpAll K _ (us ++ [v]) ((_ ++ [_]).map dTg)
          rw [List.map_append]
          exact dpa_app (dpa_but (fun _ _ q => sqt_but hu8 hn8 q) _ _ (tup_all tup_Tg _) hud8) (.cons (dp_but (fun _ _ q => sqt_but hu8 hn8 q) _ _ (tup_Tg _) hv8) .nil)
    · rintro H5 ⟨b5, hJ5, us, hus, hud⟩
      refine ⟨Dl, us, _, _, rfl, hDne, b3.tr b5, ?_, hus, ?_⟩
      · rw [stepE]
        exact hJ5
      · rw [stepE]
        exact hud
  · rintro σ' H3 ⟨fo, vs, x4, x5, rfl, hfne, b3, hJ3, hfo3, hv3⟩
    have hA : (latestA L.w (fun i j => f (i, j)) J ts (ts.length - 1)).2.length = ts.length - (ts.length - 1) := (latestA_len _ (Nat.le_refl _)).2
    obtain ⟨v0, hv01, hv02⟩ := tgAt_get hv3 (i := 0) (by omega)
    exact Evl.s_ret (Evl.ev_op (Evl.ev_var rfl) Evl.ev_c (Evl.rv_ixL (Evl.sq_of hfo3) (atI_nat (j := 0) hv01))) (fun H4 e4 => hQ _ _ (b3.tr (Ex.but e4)) (hJ3.ex e4) (dp_ex e4 _ _ hv02))
end Mk
namespace Mk
open PySem PySem.Spec PyProof.Rows L2
section
variable {K : PySem.W.Frag} {σ : L2.St} {H : Hp} {tt : TA} {D : Ends} {tz : TS} {r1 r2 r3 : Rel} {f1 f2 f3 : Str} {i : Nat}
/-- self.f1, self.f2 = .., .. -/
theorem g_ini2 {H0 : Hp} {a C dx : Addr} {fs : List (Str × V)} {F : List (Str × Rel)} (I : Ini H0 a C dx fs F H) (hv : GA tt σ H [r1, r2]) (ho : σ[i]? = some (some (.ref a))) (c : Cls K C) (n1 : NoAttr K C f1) (n2 : NoAttr K C f2) (b1 : r1.ButI a) (b2 : r2.ButI a) (hF : ∀ p ∈ F, p.2.ButI a)
    (k : ∀ fs' H', Ini H0 a C dx fs' (F ++ [(f1, r1)] ++ [(f2, r2)]) H' → tz D σ H') (h1 : F.lookup f1 = none := by rfl) (h2 : (F ++ [(f1, r1)]).lookup f2 = none := by rfl) (l : F.length < 900 := by simp) :
    tSeq (tAsg (tTup tt) (gTup K 2 (gCons (gFld K (tVar i) f1) (gCons (gFld K (tVar i) f2) gNil)))) tz D σ H := hv H Ex.rfl' _ fun vs H1 e1 ha => by
  obtain ⟨v1, v2, rfl, q1, q2⟩ := alls2 ha
  have mk : ∀ p, H1 p = none → Ex H1 (upd H1 p (.tup [v1, v2])) := fun p hp => Ex.nw hp
  refine ⟨by show 2 ≤ sizeLine; decide, fun p hp => ⟨p, _, rfl, Evl.st_of upd_same, rfl, _, _, rfl, ?_⟩⟩
  have I1 := I.ext (Ex.tr e1 (mk p hp))
  have p1 := r1.up (mk p hp) q1
  have p2 := r2.up (mk p hp) q2
  refine ⟨.ref a, ho, a, C, dx, fs, rfl, I1.at_, c, n1, by rw [I1.fl.len]; omega, ?_⟩
  have I2 := I1.put h1 hF b1 p1
  have p22 := b2 _ _ _ C dx fs I1.at_ (ExB.upd a _ (.ins C dx (putF f1 v1 fs))) p2
  refine ⟨_, _, rfl, .ref a, ho, a, C, dx, _, rfl, I2.at_, c, n2, by rw [I2.fl.len, List.length_append]; simp; omega, ?_⟩
  have I3 := I2.put h2 (fun p hp => by
    rcases List.mem_append.mp hp with hp | hp
    · exact hF p hp
    · rw [List.mem_singleton.mp hp]; exact b1) b2 p22
  exact ⟨rfl, k _ _ I3⟩
theorem g_ini3 {H0 : Hp} {a C dx : Addr} {fs : List (Str × V)} {F : List (Str × Rel)} (I : Ini H0 a C dx fs F H) (hv : GA tt σ H [r1, r2, r3]) (ho : σ[i]? = some (some (.ref a))) (c : Cls K C) (n1 : NoAttr K C f1) (n2 : NoAttr K C f2) (n3 : NoAttr K C f3) (b1 : r1.ButI a) (b2 : r2.ButI a) (b3 : r3.ButI a) (hF : ∀ p ∈ F, p.2.ButI a)
    (k : ∀ fs' H', Ini H0 a C dx fs' (F ++ [(f1, r1)] ++ [(f2, r2)] ++ [(f3, r3)]) H' → tz D σ H') (h1 : F.lookup f1 = none := by rfl) (h2 : (F ++ [(f1, r1)]).lookup f2 = none := by rfl) (h3 : (F ++ [(f1, r1)] ++ [(f2, r2)]).lookup f3 = none := by rfl) (l : F.length < 900 := by simp) :
    tSeq (tAsg (tTup tt) (gTup K 3 (gCons (gFld K (tVar i) f1) (gCons (gFld K (tVar i) f2) (gCons (gFld K (tVar i) f3) gNil))))) tz D σ H := hv H Ex.rfl' _ fun vs H1 e1 ha => by
  obtain ⟨v1, v2, v3, rfl, q1, q2, q3⟩ := alls3 ha
  have mk : ∀ p, H1 p = none → Ex H1 (upd H1 p (.tup [v1, v2, v3])) := fun p hp => Ex.nw hp
  refine ⟨by show 3 ≤ sizeLine; decide, fun p hp => ⟨p, _, rfl, Evl.st_of upd_same, rfl, _, _, rfl, ?_⟩⟩
  have I1 := I.ext (Ex.tr e1 (mk p hp))
  have p1 := r1.up (mk p hp) q1
  have p2 := r2.up (mk p hp) q2
  have p3 := r3.up (mk p hp) q3
  refine ⟨.ref a, ho, a, C, dx, fs, rfl, I1.at_, c, n1, by rw [I1.fl.len]; omega, ?_⟩
  have I2 := I1.put h1 hF b1 p1
  have hF1 : ∀ p ∈ F ++ [(f1, r1)], p.2.ButI a := fun p hp => by
    rcases List.mem_append.mp hp with hp | hp
    · exact hF p hp
    · rw [List.mem_singleton.mp hp]; exact b1
  have p22 := b2 _ _ _ C dx fs I1.at_ (ExB.upd a _ (.ins C dx (putF f1 v1 fs))) p2
  have p32 := b3 _ _ _ C dx fs I1.at_ (ExB.upd a _ (.ins C dx (putF f1 v1 fs))) p3
  refine ⟨_, _, rfl, .ref a, ho, a, C, dx, _, rfl, I2.at_, c, n2, by rw [I2.fl.len, List.length_append]; simp; omega, ?_⟩
  have I3 := I2.put h2 hF1 b2 p22
  have p33 := b3 _ _ _ C dx _ I2.at_ (ExB.upd a _ (.ins C dx (putF f2 v2 (putF f1 v1 fs)))) p32
  have hF2 : ∀ p ∈ F ++ [(f1, r1)] ++ [(f2, r2)], p.2.ButI a := fun p hp => by
    rcases List.mem_append.mp hp with hp | hp
    · exact hF1 p hp
    · rw [List.mem_singleton.mp hp]; exact b2
  refine ⟨_, _, rfl, .ref a, ho, a, C, dx, _, rfl, I3.at_, c, n3, by rw [I3.fl.len, List.length_append, List.length_append]; simp; omega, ?_⟩
  exact ⟨rfl, k _ _ (I3.put h3 hF2 b3 p33)⟩
end
theorem flds_head {B H : Hp} {f : Str} {r : Rel} {F : List (Str × Rel)} : ∀ {fs : List (Str × V)}, Flds ((f, rB B r) :: F) fs H → Flds ((f, r) :: F) fs H
  | [], h => h.elim
  | _ :: _, h => ⟨h.1, rB_on h.2.1, h.2.2⟩
end Mk
namespace Mk
open PySem PySem.Spec PyProof.Rows L2

/-! ### Web.init -/
abbrev N_Web_init : List Str := ["self", "kind", "begins", "entries", "exits", "joins", "each"]
theorem sc_Web_init : FnScope N_Web_init ["self", "kind", "begins", "entries", "exits", "joins"] (defScope s_Web_init) := ⟨rfl, rfl, rfl, by decide +kernel, rfl, by decide +kernel, by decide +kernel⟩
def dBits (bs : List Nat) : List PyData := bs.map fun b => .int (b : Nat)
def webF (K : PySem.W.Frag) (bs : List Nat) (w e : Nat) (J : List Tg) : List (Str × Rel) := [("kind", kindR K), ("begins", rD K (.tuple (dBits bs))), ("pieces", rD K (.int bs.length)), ("entries", rD K (.int w)), ("exits", rD K (.int e)), ("joins", rD K (.tuple (J.map dTg)))]
def webR (K : PySem.W.Frag) (bs : List Nat) (w e : Nat) (J : List Tg) : Rel := rIns (He.ga K "Web") (webF K bs w e J)
structure WebOk (bs : List Nat) (w e : Nat) (J : List Tg) : Prop where
  b1 : ∀ b ∈ bs, b ≤ 1
  b2 : bs.length ≤ 1200
  w1 : 1 ≤ w
  w2 : w ≤ 6
  e1 : 1 ≤ e
  e2 : e ≤ 36
  len : J.length = w + bs.length * 4
  ok : ∀ t ∈ J, t.ok e bs.length 3
inductive rel_Web_init (K : PySem.W.Frag) : List Rel → List (Str × Rel) → Prop
  | mk (bs : List Nat) (w e : Nat) (J : List Tg) (h : WebOk bs w e J) : rel_Web_init K [kindR K, rD K (.list (dBits bs)), rD K (.int w), rD K (.int e), rD K (.list (J.map dTg))] (webF K bs w e J)
theorem ok_Web_init {P : Program} {w : World} {K : PySem.W.Frag} {mg : Str → Option Value} {base : Heap} (T : Txt K mg) : CalI P w K mg base "Web" (He.ga K "Web") 5 ["self", "kind", "begins", "entries", "exits", "joins"] (SpI (He.ga K "Web") (rel_Web_init K)) := by
  refine init_of (st := s_Web_init) T.g_Web T.mk_Web (T.d.def_ 37 rfl) (fun _ _ _ _ _ _ us hl => match us, hl with | [_, _, _, _, _, _], _ => rfl) sc_Web_init (fun vs H Q E hsp => by obtain ⟨x, dx, us, rs, F, B, rfl, _, _, _, h, ha, _⟩ := hsp; rw [List.length_cons, ha.len]; cases h <;> rfl) fun cdv A outer s H vs Q E hr hsp => ?_
  have hu := hr.units
  have hu0 := hu_of hr
  have hu65 := hu65_of hr
  refine ⟨_, (pss_cons (ps_expr (pe_cal (ok_need_kind (P := P) (w := w) (base := base) T) (hr.mono (by decide)) rfl (pa_cons (pv 1) pa_nil)))
      (pss_cons (ps_if (pt_not (pt_val (pe_cal (ok_are_begins (P := P) (w := w) (base := base) T) (hr.mono (by decide)) rfl (pa_cons (pv 2) pa_nil)))) (pss_one ps_never) pss_nil)
      (pss_cons (ps_if (pt_not (pt_val (pe_cal (ok_is_within (P := P) (w := w) (base := base) T) (hr.mono (by decide)) rfl (pa_cons (pv 3) (pa_cons pe_int (pa_cons (pe_gint rfl T.i_MOST_ENTRIES) pa_nil)))))) (pss_one ps_never) pss_nil)
      (pss_cons (ps_if (pt_not (pt_val (pe_cal (ok_is_within (P := P) (w := w) (base := base) T) (hr.mono (by decide)) rfl (pa_cons (pv 4) (pa_cons pe_int (pa_cons (pe_gint rfl T.i_MOST_EXITS) pa_nil)))))) (pss_one ps_never) pss_nil)
      (pss_cons (ps_if (PW.pt (pw_or (pt_not (pt_val (pe_callB (id := "isinstance") call_isiT (by rfl) T.f_isinstance (by decide +kernel) (pa_cons (pv 5) (pa_cons (pe_tup (pa_cons (pe_bltn (v := .ty "list") rfl T.f_list (by decide +kernel) rfl) (pa_cons (pe_bltn (v := .ty "tuple") rfl T.f_tuple (by decide +kernel) rfl) pa_nil))) pa_nil))))) (pw_or1 (pt_cmpR op_ne (pe_callB (id := "len") call_len_seq (by rfl) T.f_len PySem.boot_len (pa_cons (pv 5) pa_nil)) (pe_op op_add (pv 3) (pe_op op_mul (pe_callB (id := "len") call_len_seq (by rfl) T.f_len PySem.boot_len (pa_cons (pv 2) pa_nil)) (pe_fld (pv 1) rfl))) (nomark _))))) (pss_one ps_never) pss_nil)
      (pss_cons (ps_if (pt_not (pt_val (pe_callB (id := "all") (cr_all rfl) (by rfl) T.f_all (by decide +kernel) (pa_cons (pe_lc rfl sc_Web_init.nd (pi_list (pv 5)) (blkOk_by (own := [("each", 6)]) rfl) (fun _ _ _ _ _ => (pg_name (i := 6) sc_Web_init.nd rfl (Or.inl rfl))) (fun _ _ _ _ _ => pts_nil) (fun _ _ _ _ _ => (pe_cal (ok_is_target (P := P) (w := w) (base := base) T) (hr.mono (by decide)) rfl (pa_cons (pv 6) (pa_cons (pv 4) (pa_cons (show PE _ _ (tCB (Evl.rLenS K) _) from (pe_callB (id := "len") call_len_seq (by rfl) T.f_len PySem.boot_len (pa_cons (pv 2) pa_nil))) (pa_cons (show PE _ _ (tCB (Evl.rLenS K) _) from (pe_callB (id := "len") call_len_seq (by rfl) T.f_len PySem.boot_len (pa_cons (show PE _ _ (tFld K _ _) from (pe_fld (pv 1) rfl)) pa_nil))) pa_nil))))))) pa_nil)))) (pss_one ps_never) pss_nil)
      (pss_cons (ps_asg (pe_tup (pa_cons (pv 1) (pa_cons (pe_callTy (T := "tuple") call_tuple_of (by rfl) T.f_tuple (by decide +kernel) (pa_cons (pv 2) pa_nil)) (pa_cons (pe_callB (id := "len") call_len_seq (by rfl) T.f_len PySem.boot_len (pa_cons (pv 2) pa_nil)) pa_nil)))) (pg_tup rfl (pgs_cons (pg_fld (pv 0)) (pgs_cons (pg_fld (pv 0)) (pgs_cons (pg_fld (pv 0)) pgs_nil)))))
      (pss_cons (ps_asg (pe_tup (pa_cons (pv 3) (pa_cons (pv 4) pa_nil))) (pg_tup rfl (pgs_cons (pg_fld (pv 0)) (pgs_cons (pg_fld (pv 0)) pgs_nil))))
      (pss_one (ps_fld (pv 0) (pe_callTy (T := "tuple") call_tuple_of (by rfl) T.f_tuple (by decide +kernel) (pa_cons (pe_lc rfl sc_Web_init.nd (pi_list (pv 5)) (blkOk_by (own := [("each", 6)]) rfl) (fun _ _ _ _ _ => (pg_name (i := 6) sc_Web_init.nd rfl (Or.inl rfl))) (fun _ _ _ _ _ => pts_nil) (fun _ _ _ _ _ => (pe_ifExp (pt_val (pe_cal (ok_is_integer (P := P) (w := w) (base := base) T) (hr.mono (by decide)) rfl (pa_cons (pv 6) pa_nil))) (pv 6) (show PE _ _ (tCB (rTupS K) _) from (pe_callTy (T := "tuple") call_tuple_of (by rfl) T.f_tuple (by decide +kernel) (pa_cons (pv 6) pa_nil)))))) pa_nil)) rfl)))))))))), ?_⟩

  obtain ⟨x, dx, us, rs, F, B, rfl, hB, eB, hx, h, ha, hQ⟩ := hsp
  cases h with
  | mk bs w' e J ok =>
    obtain ⟨v0, v1, v2, v3, v4, rfl, h0, h1, h2, h3, h4⟩ := alls5 ha
    obtain rfl := dp_int h2
    obtain rfl := dp_int h3
    have hbl : (dBits bs).length = bs.length := List.length_map _
    have hk := fun H' (e : Ex H H') => (kindR K).up e ((kindR K).up eB h0)
    have hb := fun H' (e : Ex H H') => dp_ex e _ _ (dp_ex eB _ _ h1)
    have hj := fun H' (e : Ex H H') => dp_ex e _ _ (dp_ex eB _ _ h4)
    refine Evl.q_drop (v := .non) (ev_call1 (rel := rel_need_kind K) (ga_1 (gd_v (i := 1) (r := kindR K) rfl (hk _ Ex.rfl'))) (.mk (kindF K))) (fun H1 e1 => ?_)
    refine Evl.q_when (b := false) (Evl.et_not (a := true) (Evl.et_test (ev_call (rel := rel_are_begins K) (ga_1 (gd_v (i := 2) (r := rD K (.list (dBits bs))) rfl (hb _ e1))) (.mk bs ok.b1 ok.b2)))) (fun h => by cases h) (fun _ H2 e2 => ?_)
    have hl : ∀ (v m : Nat), 1 ≤ v → v ≤ m → (V.bl (decide ((1 : Int) ≤ (v : Int)) && decide ((v : Int) ≤ (m : Int)))) = .bl true := fun v m h h' => by
      rw [decide_eq_true (show (1 : Int) ≤ (v : Int) by omega), decide_eq_true (show (v : Int) ≤ (m : Int) by omega)]
      rfl
    refine Evl.q_when (b := false) (Evl.et_not (a := true) (Evl.et_test (Evl.ev_is (ev_call (ga_int (Evl.ev_var rfl) (ga_int Evl.ev_c (ga_int Evl.ev_c ga_nil))) (.mk _ _ _)) (hl w' 6 ok.w1 ok.w2)))) (fun h => by cases h) (fun _ H3 e3 => ?_)
    refine Evl.q_when (b := false) (Evl.et_not (a := true) (Evl.et_test (Evl.ev_is (ev_call (ga_int (Evl.ev_var rfl) (ga_int Evl.ev_c (ga_int Evl.ev_c ga_nil))) (.mk _ _ _)) (hl e 36 ok.e1 ok.e2)))) (fun h => by cases h) (fun _ H4 e4 => ?_)
    have e14 := Ex.tr e1 (Ex.tr e2 (Ex.tr e3 e4))
    have hjl : (J.map dTg).length = w' + bs.length * 4 := by rw [List.length_map]; exact ok.len
    refine Evl.q_when (b := false) (Evl.et_or (a := false) (b := false) (Evl.et_not (a := true) (Evl.et_test (ev_isiT (gd_v (i := 5) rfl (hj _ e14)) kia_l))) (fun _ => Evl.et_B (Evl.ev_op (ev_lenS (gd_v (i := 5) rfl (hj _ e14)) (.inl rfl)) (Evl.ev_op (Evl.ev_var rfl) (Evl.ev_op (ev_lenS (gd_v (i := 2) rfl (hb _ e14)) (.inl rfl)) (ev_gd (gd_fld (r := rV (.int 4)) (gd_v (i := 1) (r := kindR K) rfl (hk _ e14)) T.cl_Kind T.n_Kind_exits)) (Evl.rv_I (.inr (by omega)))) Evl.rv_I0) (rv_neI (by rw [hjl, hbl]; push_cast; simp))))) (fun h => by cases h) (fun _ H5 e5 => ?_)
    have e15 := Ex.tr e14 e5
    have hJz : J.length ≤ 90000 := by rw [ok.len]; have := ok.b2; have := ok.w2; omega
    refine Evl.q_when (b := false) (Evl.et_not (a := true) (Evl.et_test (ev_all1 (gd_lcM (fun _ => rV (.bl true)) (gi_list (ms := J) (f := dTg) (gd_v (i := 5) rfl (hj _ e15))) hJz (fun _ => but_V) (fun _ => rfl) (fun t ht y H6 e6 hy => gd_call (rel := rel_is_target K) (ga_cons (gd_v rfl hy) (ga_int (Evl.ev_var rfl) (ga_int (ev_lenS (gd_v (i := 2) rfl (hb _ (Ex.tr e15 e6))) (.inl rfl)) (ga_int (ev_lenS (gd_fld (gd_v (i := 1) (r := kindR K) rfl (hk _ (Ex.tr e15 e6))) T.cl_Kind T.n_Kind_ways) (.inr rfl)) ga_nil)))) (by
      rw [hbl]
      exact .mk t e bs.length 3 (ok.ok t ht))))))) (fun h => by cases h) (fun _ H6 e6 => ?_)
    have e16 := Ex.tr e15 e6
    have I0 : Ini H x (He.ga K "Web") dx [] [] H6 := ⟨Ex.but e16, e16 _ _ hx, trivial⟩
    refine g_ini3 (f1 := "kind") (f2 := "begins") (f3 := "pieces") (r1 := rB B (kindR K)) (r2 := rD K (.tuple (dBits bs))) (r3 := rD K (.int bs.length)) I0 (ga_cons (gd_v (i := 1) rfl ⟨Ex.tr eB e16, h0⟩) (ga_cons (gd_tupOf (gd_v (i := 2) rfl (hb _ e16)) (.inl rfl)) (ga_1 (gd_ev (v := .int (bs.length : Nat)) (Evl.ev_is (ev_lenS (gd_v (i := 2) rfl (hb _ e16)) (.inl rfl)) (by rw [hbl])) (.int _))))) rfl T.cl_Web T.n_Web_kind T.n_Web_begins T.n_Web_pieces (butI_B hB) butI_D butI_D (by simp) (fun fs1 H7 I1 => ?_)
    have hF1 : ∀ p ∈ ([] ++ [(("kind" : Str), rB B (kindR K))] ++ [(("begins" : Str), rD K (.tuple (dBits bs)))] ++ [(("pieces" : Str), rD K (.int bs.length))] : List (Str × Rel)), p.2.ButI x := by
      intro p hp
      simp only [List.singleton_append, List.cons_append, List.nil_append, List.mem_cons, List.not_mem_nil, or_false] at hp
      rcases hp with rfl | rfl | rfl
      · exact butI_B hB
      · exact butI_D
      · exact butI_D
    refine g_ini2 (f1 := "entries") (f2 := "exits") (r1 := rD K (.int w')) (r2 := rD K (.int e)) I1 (ga_cons (gd_ev (Evl.ev_var rfl) (.int _)) (ga_1 (gd_ev (Evl.ev_var rfl) (.int _)))) rfl T.cl_Web T.n_Web_entries T.n_Web_exits butI_D butI_D hF1 (fun fs2 H8 I2 => ?_)
    have g4 := dp_ex (I2.base eB hB) _ _ h4
    refine g_ini' (f := "joins") (r := rD K (.tuple (J.map dTg))) I2 (gd_tupOf (gd_lst' (f := dTg) (gd_lcM (fun t => rD K (dTg t)) (gi_list (ms := J) (f := dTg) (gd_v (i := 5) rfl g4)) hJz (fun t => but_D (tup_Tg t)) (fun _ => rfl) (fun t ht y H9 e9 hy => ?_))) (.inl rfl)) (Evl.ev_var rfl) T.cl_Web T.n_Web_joins butI_D ?_ (fun fs3 H9 I3 => ?_)
    · cases t with
      | ex m => exact gd_if (b := true) (Evl.et_test (ev_call (ga_1 (gd_v rfl hy)) (.int _))) (fun _ => gd_v rfl hy) (fun h => by cases h)
      | pw p k => exact gd_if (b := false) (Evl.et_test (ev_call (ga_1 (gd_v rfl hy)) (.tup _))) (fun h => by cases h) (fun _ => gd_tupOf (gd_v (i := 6) rfl hy) (.inr rfl))
    · intro p hp
      rcases List.mem_append.mp hp with hp | hp
      · rcases List.mem_append.mp hp with hp | hp
        · exact hF1 p hp
        · rw [List.mem_singleton.mp hp]; exact butI_D
      · rw [List.mem_singleton.mp hp]; exact butI_D
    · refine hQ H9 I3.ex ⟨fs3, I3.at_, ?_⟩
      exact flds_head I3.fl
end Mk
namespace Mk
open PySem PySem.Spec PyProof.Rows L2
section
variable {K : PySem.W.Frag} {σ : L2.St} {H : Hp} {te : TE} {a : Addr} {xs : List V} {D : Ends} {tu tz : TS} {i0 j0 : Nat}
theorem qe_for (h : Evl.Ev te σ H (.ref a)) (h1 : SqL K H a xs) (Pv : Nat → L2.St → Hp → Prop) (h0 : ∀ H2, Ex H H2 → Pv 0 σ H2) (hG : ∀ i σ' H', Pv i σ' H' → SqL K H' a xs)
    (hs : ∀ i z σ' H' H'', xs[i]? = some z → Pv i σ' H' → Ex H' H'' → tu { D with nx := Pv (i + 1), ct := Pv (i + 1), bk := tz D } ((σ'.set i0 (some (.int (i : Nat)))).set j0 (some z)) H'') (hd : ∀ σ' H', Pv xs.length σ' H' → tz D σ' H') :
    tSeq (tFor (iEnum K (tCons te tNil)) (gTup K 2 (gCons (gName i0) (gCons (gName j0) gNil))) tu) tz D σ H :=
  h H Ex.rfl' _ fun H2 e2 => ⟨a, xs, rfl, sql_ex e2 h1, for_it walk_enum (D := { D with nx := tz D }) Pv (h0 H2 e2) (fun i σ' H' _ p => hG i σ' H' p) (fun i x σ' H' H'' hi p y => by
    obtain ⟨T, u, z, rfl, h3, rfl, h5, h6⟩ := y
    cases h5
    exact ⟨T, _, rfl, Evl.st_of upd_same, rfl, _, _, rfl, _, _, rfl, rfl, hs i z σ' H' _ h6 p (Ex.nw h3)⟩) hd⟩
theorem qeT_for (h : Evl.Ev te σ H (.ref a)) (h1 : SqT K H a xs) (Pv : Nat → L2.St → Hp → Prop) (h0 : ∀ H2, Ex H H2 → Pv 0 σ H2) (hG : ∀ i σ' H', Pv i σ' H' → SqT K H' a xs)
    (hs : ∀ i z σ' H' H'', xs[i]? = some z → Pv i σ' H' → Ex H' H'' → tu { D with nx := Pv (i + 1), ct := Pv (i + 1), bk := tz D } ((σ'.set i0 (some (.int (i : Nat)))).set j0 (some z)) H'') (hd : ∀ σ' H', Pv xs.length σ' H' → tz D σ' H') :
    tSeq (tFor (iEnumT K (tCons te tNil)) (gTup K 2 (gCons (gName i0) (gCons (gName j0) gNil))) tu) tz D σ H :=
  h H Ex.rfl' _ fun H2 e2 => ⟨a, xs, rfl, sqt_ex e2 h1, for_it (walk_enumT h1) (D := { D with nx := tz D }) Pv (h0 H2 e2) (fun i σ' H' _ p => hG i σ' H' p) (fun i x σ' H' H'' hi p y => by
    obtain ⟨T, u, z, rfl, h3, rfl, h5, h6⟩ := y
    cases h5
    exact ⟨T, _, rfl, Evl.st_of upd_same, rfl, _, _, rfl, _, _, rfl, rfl, hs i z σ' H' _ h6 p (Ex.nw h3)⟩) hd⟩
theorem ql_for {g : TG} (h : Evl.Ev te σ H (.ref a)) (h1 : SqL K H a xs) (Pv : Nat → L2.St → Hp → Prop) (h0 : ∀ H2, Ex H H2 → Pv 0 σ H2) (hG : ∀ i σ' H', Pv i σ' H' → SqL K H' a xs)
    (hs : ∀ i z σ' H', xs[i]? = some z → Pv i σ' H' → g z σ' H' fun σ2 H3 => tu { D with nx := Pv (i + 1), ct := Pv (i + 1), bk := tz D } σ2 H3) (hd : ∀ σ' H', Pv xs.length σ' H' → tz D σ' H') :
    tSeq (tFor (iList K te) g tu) tz D σ H :=
  h H Ex.rfl' _ fun H2 e2 => ⟨a, rfl, ⟨xs, sql_ex e2 h1⟩, for_it walk_list (D := { D with nx := tz D }) Pv (h0 H2 e2) (fun i σ' H' _ p => hG i σ' H' p) (fun i x σ' H' H'' hi p y => by
    obtain ⟨rfl, y⟩ := y
    exact hs i x σ' _ y p) hd⟩
theorem qr_for {ta : TE} {n : Nat} {g : TG} (h : Evl.Ev ta σ H (.int (n : Int))) (hn : n ≤ 100000) (Pv : Nat → L2.St → Hp → Prop) (h0 : ∀ H2, Ex H H2 → Pv 0 σ H2)
    (hs : ∀ i σ' H', i < n → Pv i σ' H' → g (.int (i : Nat)) σ' H' fun σ2 H3 => tu { D with nx := Pv (i + 1), ct := Pv (i + 1), bk := D.nx } σ2 H3) (hd : ∀ σ' H', Pv n σ' H' → D.nx σ' H') :
    tFor (iRng1 (tCons ta tNil)) g tu D σ H :=
  h H Ex.rfl' _ fun H2 e2 => ⟨(n : Int), rfl, by omega, by omega, by
    rw [Int.toNat_natCast]
    exact for_it walk_range Pv (h0 H2 e2) (fun _ _ _ _ _ => trivial) (fun i x σ' H' H'' hi p y => by
      obtain ⟨rfl, rfl⟩ := y
      have e : (fun i : Nat => V.int ((0 : Int) + (i : Nat))) i = .int (i : Nat) := congrArg V.int (Int.zero_add _)
      rw [e]
      exact hs i σ' _ hi p) hd⟩
theorem qr_forq {ta : TE} {n : Nat} {g : TG} (h : Evl.Ev ta σ H (.int (n : Int))) (hn : n ≤ 100000) (Pv : Nat → L2.St → Hp → Prop) (h0 : ∀ H2, Ex H H2 → Pv 0 σ H2)
    (hs : ∀ i σ' H', i < n → Pv i σ' H' → g (.int (i : Nat)) σ' H' fun σ2 H3 => tu { D with nx := Pv (i + 1), ct := Pv (i + 1), bk := tz D } σ2 H3) (hd : ∀ σ' H', Pv n σ' H' → tz D σ' H') :
    tSeq (tFor (iRng1 (tCons ta tNil)) g tu) tz D σ H := qr_for (D := { D with nx := tz D }) h hn Pv h0 hs hd
/-- l.extend(new list) -/
theorem s_extG {l : Addr} {ta : TE} {rs : List Rel} (hl : H l = some (.lst xs)) (ha : Evl.Ev ta σ H (.ref l)) (h : GL te σ H rs) (hz : xs.length + rs.length ≤ 100000) (k : ∀ ys H1, Ex H H1 → Alls rs ys H1 → D.nx σ (upd H1 l (.lst (xs ++ ys)))) :
    tDrop (tBM K "list" rExtend ta (tCons te tNil)) D σ H := ha H Ex.rfl' _ fun H1 e1 =>
  ⟨Or.inl ⟨rfl, xs, Evl.sq_of (e1 l _ hl)⟩, h H1 e1 _ fun p ys H2 hp e2 hp2 hy => ⟨l, p, xs, ys, rfl, rfl, e2 _ _ (e1 _ _ hl), hp2, Evl.sz_of (by have := hy.len; omega), k ys H2 (Ex.tr e1 e2) hy⟩⟩
end
section
variable {P : Program} {w : World} {K : PySem.W.Frag} {σ : L2.St} {H : Hp} {d a : Addr} {kvs : List (NestedKey × V)} {k : NestedKey} {v : V}
theorem nput_fin {i j : Nat} {N : L2.St → Hp → Prop} (hd : σ[i]? = some (some (.ref d))) (hy : σ[j]? = some (some (.ref a))) (h : ND P w K H d kvs) (hk : NK K H k a) (hz : kvs.length < 100000) (q : ∀ o, ND P w K (upd H d o) d (putK kvs k v) → N σ (upd H d o)) :
    tVar i σ H fun x H2 => tVar j σ H2 fun y H3 => ∃ d a k kvs, x = .ref d ∧ y = .ref a ∧ ND P w K H3 d kvs ∧ NK K H3 k a ∧ kvs.length < sizeLine ∧ ∀ o, ND P w K (upd H3 d o) d (putK kvs k v) → N σ (upd H3 d o) :=
  ⟨_, hd, _, hy, d, a, k, kvs, rfl, rfl, h, hk, Evl.sz_lt hz, q⟩
end
/-! ### dict entries as two lists -/
section
variable {κ : Type} [DecidableEq κ]
theorem zip_put : ∀ {ks : List κ} {ws : List V} {k : κ} {v : V}, ks.length = ws.length → ¬ k ∈ ks → putK (ks.zip ws) k v = (ks ++ [k]).zip (ws ++ [v]) := by
  intro ks ws k v hl hk
  have hv : ((ks.zip ws).any fun kv => decide (kv.1 = k)) = false := by
    rw [List.any_eq_false]
    intro kv hkv
    have := (List.of_mem_zip (a := kv.1) (b := kv.2) hkv).1
    have hne : ¬ kv.1 = k := fun z => hk (z ▸ this)
    simpa using hne
  unfold putK
  rw [if_neg (by rw [hv]; decide), List.zip_append hl]
  rfl
theorem zip_get : ∀ {ks : List κ} {ws : List V} {i : Nat} {k : κ} {v : V}, ks.Nodup → ks[i]? = some k → ws[i]? = some v → valV (ks.zip ws) k = some v
  | k' :: ks, w' :: ws, 0, k, v, _, h1, h2 => by
    cases h1
    cases h2
    unfold valV
    rw [List.zip_cons_cons, List.find?_cons]
    simp
  | k' :: ks, w' :: ws, i + 1, k, v, hn, h1, h2 => by
    have hn' := List.nodup_cons.mp hn
    have hne : ¬ k' = k := fun z => hn'.1 (z ▸ List.mem_of_getElem? (i := i) (by simpa using h1))
    have ih := zip_get (ks := ks) (ws := ws) (i := i) (k := k) (v := v) hn'.2 (by simpa using h1) (by simpa using h2)
    unfold valV at ih ⊢
    rw [List.zip_cons_cons, List.find?_cons, show decide ((k', w').1 = k) = false from decide_eq_false hne]
    exact ih
  | [], _, i, _, _, _, h, _ => by simp at h
  | _ :: _, [], i, _, _, _, _, h => by simp at h
end
def arrK (q : Arr) : NestedKey := .tup [.num q.1, match q.2 with
  | some o => .num o
  | none => .none]
theorem kd_arr (q : Arr) : kd (arrK q) = dArr q := by
  obtain ⟨l, o⟩ := q
  cases o <;> rfl
theorem arr_depth (q : Arr) : (arrK q).depth ≤ 8 := by
  obtain ⟨l, o⟩ := q
  cases o <;> simp [arrK, NestedKey.depth, NestedKey.depthAll]
theorem arrK_inj {a b : Arr} (h : arrK a = arrK b) : a = b := by
  obtain ⟨a1, a2⟩ := a
  obtain ⟨b1, b2⟩ := b
  unfold arrK at h
  injection h with h
  injection h with h1 h2
  injection h2 with h2 _
  injection h1 with h1
  have h1 := Int.ofNat_inj.mp h1
  simp only at h1
  subst h1
  cases a2 <;> cases b2
  · rfl
  · cases h2
  · cases h2
  · injection h2 with h2
    rw [Int.ofNat_inj.mp h2]
def dOpt : Option Tg → PyData
  | none => .none
  | some t => dTg t
theorem tup_Opt : ∀ t : Option Tg, tupOnly (dOpt t) = true
  | none => rfl
  | some t => tup_Tg t
def SpTrack (P : Program) (w : World) (K : PySem.W.Frag) : Sp := fun vs H Q E => ∃ L x Ja J at_ l out, vs = [.ref x, .int ((at_ : Nat) : Int)] ∧ LayOn P w K L x Ja H ∧ Jn K L H Ja J ∧ L.A[at_]? = some (l, some out) ∧ (∀ q ∈ pairsL L.A.length, L.fa q < L.many) ∧ L.A.length ≤ 400 ∧
  ∀ v H', ExB Ja H H' → Jn K L H' Ja (track L.w L.A.length (fun i j => L.fa (i, j)) J at_ out).1 → Dp K H' v (dTg (track L.w L.A.length (fun i j => L.fa (i, j)) J at_ out).2) → Q v H'
theorem markOf_ok {m one other many : Nat} {f : Nat × Nat → Nat} (h1 : one < m) (h2 : other < m) (hne : one ≠ other) (hf : ∀ q ∈ pairsL m, f q < many) : (markOf (fun i j => f (i, j)) one other).1 < many ∧ (markOf (fun i j => f (i, j)) one other).2 < 3 := by
  unfold markOf
  split
  · exact ⟨hf _ (mem_pairsL.mpr ⟨by assumption, h2⟩), by show 1 < 3; decide⟩
  · exact ⟨hf _ (mem_pairsL.mpr ⟨by show other < one; omega, h1⟩), by show 2 < 3; decide⟩
theorem others_mem {m a o : Nat} (h : o ∈ others m a) : o < m ∧ o ≠ a := by
  unfold others at h
  rw [List.mem_filter, List.mem_range, decide_eq_true_eq] at h
  exact h
theorem cons_GL {te : TE} {tt : TA} {σ : L2.St} {H : Hp} {rs : List Rel} {Q : List V → Hp → Prop} (h : GL te σ H rs) (k : ∀ p xs H2, H p = none → Ex H H2 → H2 p = some (.lst xs) → Alls rs xs H2 → tt σ H2 fun vs H3 => Q (.ref p :: vs) H3) : tCons te tt σ H Q := h H Ex.rfl' _ k
theorem cons_Ev {te : TE} {tt : TA} {σ : L2.St} {H : Hp} {v : V} {Q : List V → Hp → Prop} (h : Evl.Ev te σ H v) (k : ∀ H2, Ex H H2 → tt σ H2 fun vs H3 => Q (v :: vs) H3) : tCons te tt σ H Q := h H Ex.rfl' _ k
theorem cons_GD {te : TE} {tt : TA} {σ : L2.St} {H : Hp} {r : Rel} {Q : List V → Hp → Prop} (h : GD te σ H r) (k : ∀ v H2, Ex H H2 → r.on v H2 → tt σ H2 fun vs H3 => Q (v :: vs) H3) : tCons te tt σ H Q := h H Ex.rfl' _ k
section
variable {P : Program} {w : World} {K : PySem.W.Frag} {σ : L2.St} {H : Hp} {te tv : TE} {D : Ends} {tz : TS} {i j : Nat} {v : V}
/-- a, b = e, {} -/
theorem par_ed (h : Evl.Ev te σ H v) (k : ∀ d H1, H d = none → Ex H H1 → ND P w K H1 d [] → tz D ((σ.set i (some v)).set j (some (.ref d))) H1) : tSeq (tAsg (tTup (tCons te (tCons (tNNew P w K) tNil))) (gTup K 2 (gCons (gName i) (gCons (gName j) gNil)))) tz D σ H :=
  h H Ex.rfl' _ fun H1 e1 => fun d hd o hnd => ⟨by show 2 ≤ sizeLine; decide, fun p hp => ⟨p, _, rfl, Evl.st_of upd_same, rfl, _, _, rfl, _, _, rfl, rfl, k d _ (Evl.fresh_back e1 hd) (Ex.tr e1 (Ex.tr (Ex.nw hd) (Ex.nw hp))) (hnd.ex (Ex.nw hp))⟩⟩
def NPutK (P : Program) (w : World) (K : PySem.W.Frag) (D : Ends) (σ : L2.St) (i j : Nat) : VK := fun v H1 => tVar i σ H1 fun x H2 => tVar j σ H2 fun y H3 => ∃ d a k kvs, x = .ref d ∧ y = .ref a ∧ ND P w K H3 d kvs ∧ NK K H3 k a ∧ kvs.length < sizeLine ∧ ∀ o, ND P w K (upd H3 d o) d (putK kvs k v) → D.nx σ (upd H3 d o)
theorem s_nputK (h : tv σ H (NPutK P w K D σ i j)) : sNPut P w K (tVar i) (tVar j) tv D σ H := h
theorem nputK {d a : Addr} {kvs : List (NestedKey × V)} {k : NestedKey} (hd : σ[i]? = some (some (.ref d))) (hy : σ[j]? = some (some (.ref a))) (h : ND P w K H d kvs) (hk : NK K H k a) (hz : kvs.length < 100000) (q : ∀ o, ND P w K (upd H d o) d (putK kvs k v) → D.nx σ (upd H d o)) : NPutK P w K D σ i j v H :=
  ⟨_, hd, _, hy, d, a, k, kvs, rfl, rfl, h, hk, Evl.sz_lt hz, q⟩
theorem t_if {t : TT} {ta tb : TE} {b : Bool} {Q : VK} (h : Evl.EvT t σ H b) (h1 : b = true → ∀ H1, Ex H H1 → ta σ H1 Q) (h2 : b = false → ∀ H1, Ex H H1 → tb σ H1 Q) : tIf t ta tb σ H Q := h H Ex.rfl' _ fun H1 e1 => by
  cases b with
  | true => exact h1 rfl H1 e1
  | false => exact h2 rfl H1 e1
/-- l.append(f(..)), the call read by its promise -/
def AppK (D : Ends) (σ : L2.St) (l : Addr) : VK := fun v H1 => ∃ xs, H1 l = some (.lst xs) ∧ xs.length < sizeLine ∧ D.nx σ (upd H1 l (.lst (xs ++ [v])))
theorem s_appK {l : Addr} {ta : TE} {xs : List V} (hl : H l = some (.lst xs)) (ha : Evl.Ev ta σ H (.ref l)) (h : ∀ H1, Ex H H1 → te σ H1 (AppK D σ l)) (hm : ∀ H1 (Q Q' : VK), te σ H1 Q → (∀ v H', Q v H' → Q' v H') → te σ H1 Q') : tDrop (tBM K "list" rAppend ta (tCons te tNil)) D σ H := ha H Ex.rfl' _ fun H1 e1 =>
  ⟨Or.inl ⟨rfl, xs, Evl.sq_of (e1 l _ hl)⟩, hm H1 _ _ (h H1 e1) fun v H' ⟨ys, h1, h2, h3⟩ => ⟨l, ys, v, rfl, rfl, h1, h2, h3⟩⟩
/-- l.append(e) in two steps -/
theorem s_appS {l : Addr} {ta : TE} {xs : List V} (hl : H l = some (.lst xs)) (ha : Evl.Ev ta σ H (.ref l)) (h : ∀ H1, Ex H H1 → te σ H1 fun v H2 => rAppend (.ref l) [v] H2 fun _ H3 => D.nx σ H3) : tDrop (tBM K "list" rAppend ta (tCons te tNil)) D σ H := ha H Ex.rfl' _ fun H1 e1 =>
  ⟨Or.inl ⟨rfl, xs, Evl.sq_of (e1 l _ hl)⟩, h H1 e1⟩
end
theorem putK_zip_len {ks : List NestedKey} {ws : List V} (h : ks.length = ws.length) : (ks.zip ws).length = ws.length := by rw [List.length_zip, h, Nat.min_self]
theorem ExB.mut {H H' : Hp} {d0 p : Addr} {o : HO} (b : ExB d0 H H') (h : H p = none) : ExB d0 H (L2.upd H' p o) := fun a u n ha => by
  rw [upd_ne (ne_of_none ha h)]
  exact b a u n ha
theorem Jn.mut {K : PySem.W.Frag} {L : Lp} {H : Hp} {Ja p : Addr} {J : List Tg} {o : HO} (h : Jn K L H Ja J) (n : NoT H p) (hne : p ≠ Ja) : Jn K L (upd H p o) Ja J :=
  let ⟨l, vs, h1, h2⟩ := h
  ⟨l, vs, by rw [upd_ne (Ne.symm hne)]; exact h1, dpa_but (fun _ _ k => sqt_but (ExB.upd p H o) n k) _ _ (tup_all tup_Tg _) h2⟩
theorem q_callA {sp : Sp} {tt : TA} {i : Nat} {σ : L2.St} {H : Hp} {D : Ends} {tz : TS} (h : tt σ H fun vs H1 => sp (vs ++ []) H1 (fun v H2 => tz D (σ.set i (some v)) H2) E0) : tSeq (tAsg (tCall sp [] E0 tt) (gName i)) tz D σ H := h
end Mk
namespace Mk
open PySem PySem.Spec PyProof.Rows L2

/-! ### EveryLaying.arrival_track -/
abbrev N_EveryLaying_arrival_track : List Str := ["self", "at", "others", "other"]
theorem sc_EveryLaying_arrival_track : FnScope N_EveryLaying_arrival_track ["self", "at"] (defScope s_EveryLaying_arrival_track) := ⟨rfl, rfl, rfl, by decide +kernel, rfl, by decide +kernel, by decide +kernel⟩

theorem ok_EveryLaying_arrival_track {P : Program} {w : World} {K : PySem.W.Frag} {mg : Str → Option Value} {base : Heap} (T : Txt K mg) : CalM P w K mg base (He.ga K "EveryLaying") "arrival_track" 4 ["self", "at"] (SpTrack P w K) := by
  refine meth_of (st := s_EveryLaying_arrival_track) T.cl_EveryLaying T.m_EveryLaying_arrival_track (T.d.def_ 44 rfl) (fun _ _ _ _ _ _ us hl => match us, hl with | [_, _], _ => rfl) sc_EveryLaying_arrival_track (fun vs H Q E hsp => by obtain ⟨_, _, _, _, _, _, _, rfl, _⟩ := hsp; rfl) fun cdv A outer s H vs Q E hr hsp => ?_
  have hu := hr.units
  have hu0 := hu_of hr
  have hu65 := hu65_of hr
  refine ⟨_, (pss_cons (ps_setLc (i := 2) rfl sc_EveryLaying_arrival_track.nd rfl rfl (sw_true rfl rfl rfl (by decide +kernel)) (pi_range1 rfl T.f_range (pa_cons (pe_callB (id := "len") call_len_seq (by rfl) T.f_len PySem.boot_len (pa_cons (pe_fld (pv 0) rfl) pa_nil)) pa_nil)) (blkOk_by (own := [("other", 3)]) rfl) (fun _ _ _ _ _ => (pg_name (i := 3) sc_EveryLaying_arrival_track.nd rfl (Or.inl rfl))) (fun _ _ _ _ _ => (pts_one (pt_cmpR op_ne (pv 3) (pv 1) (nomark _)))) (fun _ _ _ _ _ => (pv 3)))
      (pss_one (ps_ret (pe_calM (ok_Laying_marked (P := P) (w := w) (base := base) T) (hr.mono (by decide)) (pv 0) (pa_cons (pe_lc rfl sc_EveryLaying_arrival_track.nd (pi_list (pv 2)) (blkOk_by (own := [("other", 3)]) rfl) (fun _ _ _ _ _ => (pg_name (i := 3) sc_EveryLaying_arrival_track.nd rfl (Or.inl rfl))) (fun _ _ _ _ _ => pts_nil) (fun _ _ _ _ _ => (pe_cal (ok_mark_of (P := P) (w := w) (base := base) T) (hr.mono (by decide)) rfl (pa_cons (show PE _ _ (tFld K _ _) from (pe_fld (pv 0) rfl)) (pa_cons (pv 1) (pa_cons (pv 3) pa_nil)))))) (pa_cons (pe_ix ix_tup (pe_ix ix_list (pe_fld (pv 0) rfl) (pv 1) (fun _ _ => rfl)) pe_int (fun _ _ => rfl)) pa_nil)))))), ?_⟩

  obtain ⟨L, x, Ja, J, at_, l, out, rfl, I, hJ, hat, hfa, hA, hQ⟩ := hsp
  obtain ⟨dx, aA, aB, aD, xs, bs, kv, sv, Ic⟩ := I
  have I : LayOn P w K L x Ja H := ⟨dx, aA, aB, aD, xs, bs, kv, sv, Ic⟩
  have hatm : at_ < L.A.length := (List.getElem?_eq_some_iff.mp hat).1
  have hxl : xs.length = L.A.length := by have := dpa_len Ic.arrd; rwa [List.length_map] at this
  have arrE : ∀ (σ : L2.St) H1, σ[0]? = some (some (.ref x)) → Ex H H1 → GD (tFld K (tVar 0) "arrivals") σ H1 (rD K (.list (L.A.map dArr))) := fun σ H1 h0 e => gd_ev (ev_ins h0 (Ic.ex e).ins T.cl_EveryLaying T.n_EveryLaying_arrivals rfl) (.lst (Ic.ex e).arr (Ic.ex e).arrd)
  have hlen : Evl.Ev (tCB (fun xs H Q => ∃ p ys, xs = [.ref p] ∧ (SqL K H p ys ∨ SqT K H p ys) ∧ Q (.int ys.length) H) (tCons (tFld K (tVar 0) "arrivals") tNil)) (start N_EveryLaying_arrival_track [.ref x, .int ((at_ : Nat) : Int)]) H (.int (L.A.length : Nat)) := Evl.ev_is (ev_lenS (arrE _ _ rfl Ex.rfl') (.inl rfl)) (by rw [List.length_map])
  refine g_asg (r := rD K (.list ((others L.A.length at_).map fun o => .int (o : Nat)))) (gd_lst' (ms := others L.A.length at_) (f := fun o => .int (o : Nat)) (gd_lcN (e := fun i : Nat => rV (.int (i : Nat))) (fun o : Nat => decide (o ≠ at_)) (fun o : Nat => rD K (.int (o : Nat))) (gi_rng1 hlen (by omega)) (by rw [List.length_range]; omega) (fun _ => but_D rfl) (by exact fun _ => rfl) (fun o ho y H1 e1 hy => ?_) (fun o ho y H1 e1 hy _ => ?_))) (fun v2 H1 e1 hv2 => ?_)
  · have hy : y = .int (o : Nat) := hy
    subst hy
    exact Evl.et_B (Evl.ev_op (Evl.ev_var rfl) (Evl.ev_var rfl) (rv_neI dec_ne_nat))
  · have hy : y = .int (o : Nat) := hy
    subst hy
    exact gd_ev (Evl.ev_var rfl) (.int _)
  have Ic1 := Ic.ex e1
  refine ⟨.ref x, rfl, x, dx, _, rfl, Ic1.ins, rfl, ?_⟩
  have hol : (others L.A.length at_).length ≤ 400 := by
    unfold others
    refine Nat.le_trans (List.length_filter_le _ _) ?_
    rw [List.length_range]
    exact hA
  refine cons_GL (gl_lcM (fun o : Nat => rD K (dMark (markOf (fun i j => L.fa (i, j)) at_ o))) (gi_list (ms := others L.A.length at_) (f := fun o : Nat => .int (o : Nat)) (gd_v (i := 2) rfl hv2)) (by omega) (fun _ => but_D rfl) (by exact fun _ => rfl) (fun o ho y H2 e2 hy => ?_)) (fun p ys H2 hp e2 hp2 hy => ?_)
  · obtain ⟨ho1, ho2⟩ := others_mem ho
    exact gd_call (rel := rel_mark_of P w K) (ga_cons (gd_ev (ev_ins (i := 0) rfl (Ic1.ex e2).ins T.cl_EveryLaying T.n_EveryLaying_by_arrivals rfl) (r := rPk P w K (pairsL L.A.length) L.fa) ⟨aD, rfl, (Ic1.ex e2).bya⟩) (ga_int (Evl.ev_var rfl) (ga_cons (gd_v (i := 3) rfl hy) ga_nil))) (.mk L.A.length at_ o L.fa hatm ho1 (Ne.symm ho2))
  · have Ic2 := Ic1.ex e2
    refine cons_Ev (ev_gd (gd_to (r' := rV (.int (out : Nat))) (gd_ixT (i := 1) (d := .int (out : Nat)) (gd_ixL (i := ((at_ : Nat) : Int)) (d := dArr (l, some out)) (arrE _ _ rfl (Ex.tr e1 e2)) (Evl.ev_var rfl) (atI_nat (by rw [List.getElem?_map, hat]; rfl))) Evl.ev_c rfl) (fun v _ _ q => dp_int q))) (fun H3 e3 => ?_)
    have hne : p ≠ Ja := fun z => by
      obtain ⟨vj, hvj⟩ := (hJ.ex e1).lst
      rw [z, hvj] at hp
      cases hp
    refine ⟨L, x, Ja, J, p, (others L.A.length at_).map (markOf (fun i j => L.fa (i, j)) at_), .ex out, .int (out : Nat), rfl, I.ex (Ex.tr e1 (Ex.tr e2 e3)), hJ.ex (Ex.tr e1 (Ex.tr e2 e3)), hne, ⟨ys, Evl.sq_of (e3 _ _ hp2), ?_⟩, .int _, ?_, by rw [List.length_map]; omega, fun v H4 b4 hJ4 hv4 => hQ v H4 ((Ex.but (Ex.tr e1 (Ex.tr e2 e3))).tr b4) hJ4 hv4⟩
    · rw [List.map_map]
      have := (hy.up e3)
      have e : ((others L.A.length at_).map fun o : Nat => rD K (dMark (markOf (fun i j => L.fa (i, j)) at_ o))) = ((others L.A.length at_).map (dMark ∘ markOf (fun i j => L.fa (i, j)) at_)).map (rD K) := by rw [List.map_map]; rfl
      rw [e] at this
      exact this.data
    · intro q hq
      obtain ⟨o, ho, rfl⟩ := List.mem_map.mp hq
      obtain ⟨ho1, ho2⟩ := others_mem ho
      exact markOf_ok hatm ho1 (Ne.symm ho2) hfa
end Mk
namespace Mk
open PySem PySem.Spec PyProof.Rows L2

/-! ### EveryLaying.lay -/
abbrev N_EveryLaying_lay : List Str := ["self", "small", "known", "at", "arrival", "homes", "standing", "rules", "tracks", "out", "later", "center", "_", "way", "marks", "pieces", "other"]
theorem sc_EveryLaying_lay : FnScope N_EveryLaying_lay ["self"] (defScope s_EveryLaying_lay) := ⟨rfl, rfl, rfl, by decide +kernel, rfl, by decide +kernel, by decide +kernel⟩
structure LayOk (L : Lp) : Prop where
  sm : Small L.e L.n L.w L.S
  nd : L.A.Nodup
  has : ∀ s, s < L.n → ∀ p ∈ rowAt L.S s, p.2 ≠ s → (p.2, some p.1) ∈ L.A
  lt : ∀ q ∈ L.A, q.1 < L.n
  a1 : 1 ≤ L.A.length
  a2 : L.A.length ≤ 400
  fa : ∀ q ∈ pairsL L.A.length, L.fa q < L.many
  fw : ∀ s, s < L.n → ∀ q ∈ pairsL L.w, L.fw s q < L.many
def Lp.pc (L : Lp) (s i j : Nat) : Nat := L.fw s (i, j)
def Lp.pa (L : Lp) (i j : Nat) : Nat := L.fa (i, j)
def Lp.kn (L : Lp) (J : List Tg) (i : Nat) : List Tg × List (Option Tg) := knownA L.w L.pa L.A J i
def Lp.hm (L : Lp) (J : List Tg) (i : Nat) : List Tg × List Tg := homeA L.w L.pc L.A (L.kn J L.A.length).2 L.S (L.kn J L.A.length).1 i
def Lp.ce (L : Lp) (J : List Tg) : St2 := latest L.w L.pa (L.hm J L.S.length).1 (L.A.map fun q => tgAt (L.hm J L.S.length).2 q.1)
def Lp.en (L : Lp) (J : List Tg) (i : Nat) : List Tg := (List.range i).foldl (entryStep L.S.length L.w L.pc (L.ce J).2) (L.ce J).1
theorem Lp.lay_eq (L : Lp) (J : List Tg) : lay L.w L.pc L.pa L.A L.S J = L.en J L.w := rfl
def SpLay (P : Program) (w : World) (K : PySem.W.Frag) : Sp := fun vs H Q E => ∃ L x Ja J, vs = [.ref x] ∧ LayOn P w K L x Ja H ∧ Jn K L H Ja J ∧ LayOk L ∧ ∀ H', ExB Ja H H' → Jn K L H' Ja (lay L.w L.pc L.pa L.A L.S J) → Q .non H'
theorem dpa_snoc {K : PySem.W.Frag} {H : Hp} {vs : List V} {ds : List PyData} {v : V} {d : PyData} (h : DpAll K H vs ds) (h2 : Dp K H v d) : DpAll K H (vs ++ [v]) (ds ++ [d]) := dpa_app h (.cons h2 .nil)
theorem ok_EveryLaying_lay {P : Program} {w : World} {K : PySem.W.Frag} {mg : Str → Option Value} {base : Heap} (T : Txt K mg) : CalM P w K mg base (He.ga K "EveryLaying") "lay" 5 ["self"] (SpLay P w K) := by
  refine meth_of (st := s_EveryLaying_lay) T.cl_EveryLaying T.m_EveryLaying_lay (T.d.def_ 45 rfl) (fun _ _ _ _ _ _ us hl => match us, hl with | [_], _ => rfl) sc_EveryLaying_lay (fun vs H Q E hsp => by obtain ⟨_, _, _, _, rfl, _⟩ := hsp; rfl) fun cdv A outer s H vs Q E hr hsp => ?_
  have hu := hr.units
  have hu0 := hu_of hr
  have hu65 := hu65_of hr
  refine ⟨_, (pss_cons (ps_asg (pe_tup (pa_cons (pe_fld (pv 0) rfl) (pa_cons pe_nnew pa_nil))) (pg_tup rfl (pgs_cons (pg_name (i := 1) sc_EveryLaying_lay.nd rfl (Or.inl rfl)) (pgs_cons (pg_name (i := 2) sc_EveryLaying_lay.nd rfl (Or.inr rfl)) pgs_nil))))
      (pss_cons (ps_for PassesOwn.never rfl (pi_enum rfl T.f_enumerate (pa_cons (pe_fld (pv 0) rfl) pa_nil)) (pg_tup rfl (pgs_cons (pg_name (i := 3) sc_EveryLaying_lay.nd rfl (Or.inl rfl)) (pgs_cons (pg_name (i := 4) sc_EveryLaying_lay.nd rfl (Or.inl rfl)) pgs_nil)))
      (pss_one (ps_nput hu (pv 2) (pv 4) (pe_ifExp (pt_cmp (pc_isN (pe_ix ix_tup (pv 4) pe_int (fun _ _ => rfl))) rfl) pe_non (pe_calM (ok_EveryLaying_arrival_track (P := P) (w := w) (base := base) T) (hr.mono (by decide)) (pv 0) (pa_cons (pv 3) pa_nil))) rfl)))
      (pss_cons (ps_set (i := 5) sc_EveryLaying_lay.nd rfl (Or.inr rfl) (pe_lst pa_nil))
      (pss_cons (ps_for PassesOwn.never rfl (pi_enumT rfl T.f_enumerate (pa_cons (pe_fld (pv 1) rfl) pa_nil)) (pg_tup rfl (pgs_cons (pg_name (i := 6) sc_EveryLaying_lay.nd rfl (Or.inr rfl)) (pgs_cons (pg_name (i := 7) sc_EveryLaying_lay.nd rfl (Or.inl rfl)) pgs_nil)))
      (pss_cons (ps_setLc (i := 8) rfl sc_EveryLaying_lay.nd rfl rfl (sw_true rfl rfl rfl (by decide +kernel)) (pi_tup (pv 7)) (blkOk_by (own := [("out", 9), ("later", 10)]) rfl) (fun _ _ _ _ _ => (show PG _ _ (gTup K 2 _) from (pg_tup rfl (pgs_cons (pg_name (i := 9) sc_EveryLaying_lay.nd rfl (Or.inl rfl)) (pgs_cons (pg_name (i := 10) sc_EveryLaying_lay.nd rfl (Or.inl rfl)) pgs_nil))))) (fun _ _ _ _ _ => pts_nil) (fun _ _ _ _ _ => (pe_ifExp (pt_cmpR op_eq (pv 10) (pv 6) (nomark _)) (pv 9) (show PE _ _ (tNGet P w K _ _) from (pe_nget hu (pv 2) (pe_tup (pa_cons (pv 10) (pa_cons (pv 9) pa_nil))) (fun _ _ => rfl))))))
      (pss_one (ps_expr (pe_bm PySem.F.plainAttrs_list PySem.F.slot_list_append PySem.F.type_list_append mt_append (pv 5) (pa_cons (pe_cal (ok_latest (P := P) (w := w) (base := base) T) (hr.mono (by decide)) rfl (pa_cons (pv 0) (pa_cons (pe_ix ix_list (pe_fld (pv 0) rfl) (pv 6) (fun _ _ => rfl)) (pa_cons (pv 8) pa_nil)))) pa_nil))))))
      (pss_cons (ps_set (i := 11) sc_EveryLaying_lay.nd rfl (Or.inl rfl) (pe_cal (ok_latest (P := P) (w := w) (base := base) T) (hr.mono (by decide)) rfl (pa_cons (pv 0) (pa_cons (pe_fld (pv 0) rfl) (pa_cons (pe_lc rfl sc_EveryLaying_lay.nd (pi_list (pe_fld (pv 0) rfl)) (blkOk_by (own := [("later", 10), ("_", 12)]) rfl) (fun _ _ _ _ _ => (show PG _ _ (gTup K 2 _) from (pg_tup rfl (pgs_cons (pg_name (i := 10) sc_EveryLaying_lay.nd rfl (Or.inl rfl)) (pgs_cons (pg_name (i := 12) sc_EveryLaying_lay.nd rfl (Or.inl rfl)) pgs_nil))))) (fun _ _ _ _ _ => pts_nil) (fun _ _ _ _ _ => (show PE _ _ (tOp (rIxL K) _ _) from (pe_ix ix_list (pv 5) (pv 10) (fun _ _ => rfl))))) pa_nil)))))
      (pss_one (ps_for PassesOwn.never rfl (pi_range1 rfl T.f_range (pa_cons (pe_fld (pv 1) rfl) pa_nil)) (pg_name (i := 13) sc_EveryLaying_lay.nd rfl (Or.inr rfl))
      (pss_cons (ps_set (i := 14) sc_EveryLaying_lay.nd rfl (Or.inl rfl) (pe_lst pa_nil))
      (pss_cons (ps_for PassesOwn.never rfl (pi_list (pe_fld (pv 0) rfl)) (pg_name (i := 15) sc_EveryLaying_lay.nd rfl (Or.inr rfl))
      (pss_one (ps_expr (pe_bm PySem.F.plainAttrs_list PySem.F.slot_list_extend PySem.F.type_list_extend mt_extend (pv 14) (pa_cons (pe_lc rfl sc_EveryLaying_lay.nd (pi_range1 rfl T.f_range (pa_cons (pe_fld (pv 1) rfl) pa_nil)) (blkOk_by (own := [("other", 16)]) rfl) (fun _ _ _ _ _ => (pg_name (i := 16) sc_EveryLaying_lay.nd rfl (Or.inl rfl))) (fun _ _ _ _ _ => (pts_one (pt_cmpR op_ne (pv 16) (pv 13) (nomark _)))) (fun _ _ _ _ _ => (pe_cal (ok_mark_of (P := P) (w := w) (base := base) T) (hr.mono (by decide)) rfl (pa_cons (pv 15) (pa_cons (pv 13) (pa_cons (pv 16) pa_nil)))))) pa_nil)))))
      (pss_one (ps_asg (pe_calM (ok_Laying_marked (P := P) (w := w) (base := base) T) (hr.mono (by decide)) (pv 0) (pa_cons (pv 14) (pa_cons (pv 11) pa_nil))) (pg_sub (pe_fld (pv 0) rfl) (pv 13) set_list)))))))))))), ?_⟩

  obtain ⟨L, x, Ja, J, rfl, I, hJ, ok, hQ⟩ := hsp
  have IO := I
  obtain ⟨dx, aA, aB, aD, xs, bs, kv, sv, Ic⟩ := IO
  obtain ⟨vj, hvj⟩ := hJ.lst
  have at_ := fun H' (b : ExB Ja H H') => Ic.but hvj b
  have xl : xs.length = L.A.length := by have := dpa_len Ic.arrd; rwa [List.length_map] at this
  have bl : bs.length = L.n := by have := Ic.bywd.len; rwa [List.length_map, List.length_range] at this
  have hSl : L.S.length = L.n := ok.sm.len
  have hn2 := ok.sm.n2
  have hw2 := ok.sm.w2
  have smallH := Ic.small
  obtain ⟨as_, dxs, fss, hsv, hs1, hs2⟩ := smallH
  have hasne : as_ ≠ Ja := fun z => by rw [z, hvj] at hs1; cases hs1
  obtain ⟨u, hu3, hu4⟩ := hs2.look (f := "rules") (r := rD K (dRulesT L.S)) rfl
  obtain ⟨uw, huw3, huw4⟩ := hs2.look (f := "ways") (r := rD K (.int L.w)) rfl
  obtain ⟨ar, xr, rfl, hr1, hr2⟩ := dp_tup (show Dp K H u (.tuple (L.S.map dRowT)) from hu4)
  have xrl : xr.length = L.S.length := by have := dpa_len hr2; rwa [List.length_map] at this
  have rulesE : ∀ (σ : L2.St) H', σ[1]? = some (some sv) → ExB Ja H H' → Evl.Ev (tFld K (tVar 1) "rules") σ H' (.ref ar) := fun σ H' h b => ev_ins (x := as_) (by rw [h, hsv]) (b _ _ hasne hs1) T.cl_Table T.n_Table_rules hu3
  have waysE : ∀ (σ : L2.St) H', σ[1]? = some (some sv) → ExB Ja H H' → Evl.Ev (tFld K (tVar 1) "ways") σ H' (.int (L.w : Nat)) := fun σ H' h b => Evl.ev_is (ev_ins (x := as_) (by rw [h, hsv]) (b _ _ hasne hs1) T.cl_Table T.n_Table_ways huw3) (dp_int huw4)
  have rows_at : ∀ H', ExB Ja H H' → SqT K H' ar xr ∧ DpAll K H' xr (L.S.map dRowT) := fun H' b => ⟨sqt_but b (noT_lst hvj) hr1, dpa_butJ hJ b (tup_all tup_rowT _) hr2⟩
  refine par_ed (ev_ins (i := 0) (σ := start N_EveryLaying_lay [.ref x]) rfl Ic.ins T.cl_EveryLaying T.n_EveryLaying_small rfl) (fun kd0 H1 hkdH e2 hnd => ?_)
  have hkdJ : kd0 ≠ Ja := fun z => by rw [z, hvj] at hkdH; cases hkdH
  -- the tracks of the arrivals
  refine qe_for (xs := xs) (ev_ins (i := 0) rfl (Ic.ex e2).ins T.cl_EveryLaying T.n_EveryLaying_arrivals rfl) (Ic.ex e2).arr (fun i σ' H' => ∃ x3 x4 ws, σ' = [some (.ref x), some sv, some (.ref kd0), x3, x4, none, none, none, none, none, none, none, none, none, none, none, none] ∧ ExB Ja H H' ∧ Jn K L H' Ja (L.kn J i).1 ∧ ND P w K H' kd0 (((L.A.take i).map arrK).zip ws) ∧ DpAll K H' ws ((L.kn J i).2.map dOpt)) (fun H2 e3 => ⟨_, _, [], rfl, Ex.but (Ex.tr e2 e3), hJ.ex (Ex.tr e2 e3), hnd.ex e3, .nil⟩) (fun i σ' H' z => by obtain ⟨_, _, _, _, b, _⟩ := z; exact (at_ _ b).arr) ?_ ?_
  · rintro i z σ' H2 H3 hz ⟨x3, x4, ws, rfl, b2, hJ2, nd2, hw2'⟩ e3
    have hiA : i < L.A.length := by rw [← xl]; exact (List.getElem?_eq_some_iff.mp hz).1
    have hq : L.A[i]? = some L.A[i] := List.getElem?_eq_getElem hiA
    obtain ⟨q, hqd⟩ : ∃ q, q = L.A[i] := ⟨_, rfl⟩
    rw [← hqd] at hq
    have b3 := b2.tr (Ex.but e3)
    have I3 := at_ _ b3
    have hzd : Dp K H3 z (dArr q) := by
      obtain ⟨d, hd1, hd2⟩ := dpa_getV I3.arrd hz
      rw [List.getElem?_map, hq] at hd1
      cases hd1
      exact hd2
    have nd3 := nd2.ex e3
    have hws : ws.length = i := by
      have := dpa_len hw2'
      rw [List.length_map] at this
      rw [this]
      exact (knownA_len i (by omega)).2
    have hni : ¬ arrK q ∈ (L.A.take i).map arrK := fun y => by
      obtain ⟨q', hq', e'⟩ := List.mem_map.mp y
      have := arrK_inj e'
      subst this
      obtain ⟨i', hi', hi2⟩ := List.mem_take_iff_getElem.mp hq'
      have := (List.getElem_inj ok.nd).mp (hi2.trans hqd)
      omega
    have hkl : ((L.A.take i).map arrK).length = ws.length := by rw [List.length_map, List.length_take, hws]; omega
    have tk : (L.A.take (i + 1)).map arrK = (L.A.take i).map arrK ++ [arrK q] := by
      rw [List.take_succ, hq, List.map_append]
      rfl
    have hks : L.kn J (i + 1) = knownStep L.w L.pa L.A.length (L.kn J i) (q, i) := knownA_succ hq
    obtain ⟨al, ax, rfl, ha1, ha2⟩ := dp_tup (show Dp K H3 z (.tuple [.int (q.1 : Nat), match q.2 with | some o => .int (o : Nat) | none => .none]) from hzd)
    have nk3 : NK K H3 (arrK q) al := ⟨arr_depth q, by rw [kd_arr]; exact hzd⟩
    have hz3 : (((L.A.take i).map arrK).zip ws).length < 100000 := by
      rw [putK_zip_len hkl]
      have := ok.a2
      omega
    have keep : ∀ {ws' : List V} {kn : List (Option Tg)} {H5 : Hp} {o5 : HO}, NoT H5 kd0 → DpAll K H5 ws' (kn.map dOpt) → DpAll K (upd H5 kd0 o5) ws' (kn.map dOpt) := fun n h => dpa_but (fun _ _ k => sqt_but (ExB.upd kd0 _ _) n k) _ _ (tup_all tup_Opt _) h
    refine s_nputK ?_
    obtain ⟨l, oo⟩ := q
    cases oo with
    | none =>
      refine t_if (b := true) (Evl.et_B (ev_isYes (ev_gd (gd_to (r' := rV .non) (gd_ixT (i := 1) (d := .none) (gd_v (i := 4) (r := rD K (dArr (l, none))) rfl hzd) Evl.ev_c rfl) (fun v _ _ k => dp_non k))))) (fun _ H4 e4 => ?_) (fun h => by cases h)
      have b4 := b3.tr (Ex.but e4)
      have nd4 := nd3.ex e4
      refine nputK rfl rfl nd4 (nk3.ex e4) hz3 (fun o5 nd5 => ⟨_, _, ws ++ [.non], rfl, b4.mut hkdH, ?_, ?_, ?_⟩)
      · rw [hks]
        exact ((hJ2.ex e3).ex e4).mut nd4.noT hkdJ
      · rw [tk, ← zip_put hkl hni]
        exact nd5
      · rw [hks]
        show DpAll K _ (ws ++ [.non]) (((L.kn J i).2 ++ [none]).map dOpt)
        rw [List.map_append]
        exact dpa_snoc (keep nd4.noT (dpa_ex (Ex.tr e3 e4) _ _ hw2')) .non
    | some out =>
      refine t_if (b := false) (Evl.et_B (ev_isNo (ev_gd (gd_to (r' := rV (.int (out : Nat))) (gd_ixT (i := 1) (d := .int (out : Nat)) (gd_v (i := 4) (r := rD K (dArr (l, some out))) rfl hzd) Evl.ev_c rfl) (fun v _ _ k => dp_int k))))) (fun h => by cases h) (fun _ H4 e4 => ?_)
      have b4 := b3.tr (Ex.but e4)
      have nd4 := nd3.ex e4
      have hJ4 := (hJ2.ex e3).ex e4
      refine meth_sp (vs := [.int (i : Nat)]) (Evl.ev_var rfl) (at_ _ b4).ins rfl (Evl.ea_cons (Evl.ev_var rfl) Evl.ea_nil) (fun H5 e5 => ⟨L, x, Ja, _, i, l, out, rfl, ⟨_, _, _, _, _, _, _, _, at_ _ (b4.tr (Ex.but e5))⟩, hJ4.ex e5, hq, ok.fa, ok.a2, fun v H6 b6 hJ6 hv6 => ?_⟩)
      obtain ⟨v5, hv5⟩ := (hJ4.ex e5).lst
      have nd6 := (nd4.ex e5).but b6 (noT_lst hv5) hkdJ
      refine nputK rfl rfl nd6 (((nk3.ex e4).ex e5).but b6 (noT_lst hv5)) hz3 (fun o5 nd5 => ⟨_, _, ws ++ [v], rfl, ((b4.tr (Ex.but e5)).tr b6).mut hkdH, ?_, ?_, ?_⟩)
      · rw [hks]
        exact hJ6.mut nd6.noT hkdJ
      · rw [tk, ← zip_put hkl hni]
        exact nd5
      · rw [hks]
        show DpAll K _ (ws ++ [v]) (((L.kn J i).2 ++ [some _]).map dOpt)
        rw [List.map_append]
        exact dpa_snoc (keep nd6.noT (dpa_butJ (hJ4.ex e5) b6 (tup_all tup_Opt _) (dpa_ex (Ex.tr e3 (Ex.tr e4 e5)) _ _ hw2'))) (dp_but (fun _ _ k => sqt_but (ExB.upd kd0 _ _) nd6.noT k) _ _ (tup_Opt (some _)) hv6)
  -- the tracks of each standing
  rintro σ' H2 ⟨x3, x4, ws, rfl, b2, hJ2, nd2, hw2'⟩
  rw [xl] at hJ2 nd2 hw2'
  rw [List.take_length] at nd2
  have hwl : ws.length = L.A.length := by
    have := dpa_len hw2'
    rw [List.length_map] at this
    rw [this]
    exact (knownA_len _ (Nat.le_refl _)).2
  have hkn : (L.A.map arrK).Nodup := nodup_map_inj _ ok.nd fun a _ b _ e => arrK_inj e
  refine Evl.q_asgL (Evl.el_lst (vs := []) Evl.ea_nil (by decide)) (fun ho H3 hho e3 hho3 => ?_)
  obtain ⟨vj2, hvj2⟩ := hJ2.lst
  have hhoJ : ho ≠ Ja := fun z => by rw [z, hvj2] at hho; cases hho
  have hhoK : ho ≠ kd0 := fun z => by
    obtain ⟨oo, hoo⟩ := nd2.some
    rw [z, hoo] at hho
    cases hho
  have hhoH : H ho = none := by
    cases hh : H ho with
    | none => rfl
    | some oo =>
      have := b2 _ _ hhoJ hh
      rw [this] at hho
      cases hho
  have b3 := b2.tr (Ex.but e3)
  refine qeT_for (rulesE _ _ rfl b3) (rows_at _ b3).1 (fun i σ' H' => ∃ x6 x7 x8 hs, σ' = [some (.ref x), some sv, some (.ref kd0), x3, x4, some (.ref ho), x6, x7, x8, none, none, none, none, none, none, none, none] ∧ ExB Ja H H' ∧ Jn K L H' Ja (L.hm J i).1 ∧ ND P w K H' kd0 ((L.A.map arrK).zip ws) ∧ DpAll K H' ws ((L.kn J L.A.length).2.map dOpt) ∧ H' ho = some (.lst hs) ∧ DpAll K H' hs ((L.hm J i).2.map dTg)) (fun H4 e4 => ⟨_, _, _, [], rfl, b3.tr (Ex.but e4), hJ2.ex (Ex.tr e3 e4), nd2.ex (Ex.tr e3 e4), dpa_ex (Ex.tr e3 e4) _ _ hw2', e4 _ _ hho3, .nil⟩) (fun i σ' H' z => by obtain ⟨_, _, _, _, _, b, _⟩ := z; exact (rows_at _ b).1) ?_ ?_
  · rintro i z σ' H4 H5 hz ⟨x6, x7, x8, hs, rfl, b4, hJ4, nd4, hw4, hho4, hh4⟩ e5
    have hiS : i < L.S.length := by rw [← xrl]; exact (List.getElem?_eq_some_iff.mp hz).1
    have hin : i < L.n := by rw [← hSl]; exact hiS
    have hrow : L.S[i]? = some (rowAt L.S i) := by
      rw [List.getElem?_eq_getElem hiS]
      simp [rowAt, List.getElem?_eq_getElem hiS]
    have b5 := b4.tr (Ex.but e5)
    have hzd : Dp K H5 z (dRowT (rowAt L.S i)) := by
      obtain ⟨d, hd1, hd2⟩ := dpa_getV (rows_at _ b5).2 hz
      rw [List.getElem?_map, hrow] at hd1
      cases hd1
      exact hd2
    have nd5 := nd4.ex e5
    have hw5 := dpa_ex e5 _ _ hw4
    have hrl : (rowAt L.S i).length = L.w := ok.sm.rowLen hin
    have hstep : L.hm J (i + 1) = homeStep L.w L.pc L.A (L.kn J L.A.length).2 (L.hm J i) (rowAt L.S i, i) := homeA_succ hrow
    refine g_asg (r := rD K (.list (((rowAt L.S i).map (trackOf L.A (L.kn J L.A.length).2 i)).map dTg))) ?_ (fun tv H6 e6 htv => ?_)
    · rw [List.map_map]
      refine gd_lst' (f := dTg ∘ trackOf L.A (L.kn J L.A.length).2 i) (gd_lcPM (d1 := fun p : Rule => .int (p.1 : Nat)) (d2 := fun p : Rule => .int (p.2 : Nat)) (fun p : Rule => rD K (dTg (trackOf L.A (L.kn J L.A.length).2 i p))) (gi_tup (f := dRule) (gd_v (i := 7) rfl hzd)) (by rw [hrl]; omega) (fun p => but_D (tup_Tg _)) (by exact fun _ _ => rfl) (fun p hp y1 y2 H6 e6 hy1 hy2 => ?_))
      obtain rfl := dp_int hy1
      obtain rfl := dp_int hy2
      refine gd_if (b := decide (p.2 = i)) (Evl.et_B (Evl.ev_op (Evl.ev_var rfl) (Evl.ev_var rfl) (rv_eqI dec_eq_nat))) (fun hb => ?_) (fun hb => ?_)
      · have hb := of_decide_eq_true hb
        unfold trackOf
        rw [if_pos hb]
        exact gd_ev (Evl.ev_var rfl) (.int _)
      · have hb := of_decide_eq_false hb
        have hmem := ok.has i hin p hp hb
        obtain ⟨k, hk1, hk2⟩ := List.getElem_of_mem hmem
        have hkA : L.A[k]? = some (p.2, some p.1) := by rw [List.getElem?_eq_getElem hk1, hk2]
        have hidx : L.A.idxOf (p.2, some p.1) = k := by
          rw [← hk2]
          exact List.Nodup.idxOf_getElem ok.nd k hk1
        have hsome := known_some (w := L.w) (pa := L.pa) (J := J) hkA
        have htr : trackOf L.A (L.kn J L.A.length).2 i p = (track L.w L.A.length L.pa (knownA L.w L.pa L.A J k).1 k p.1).2 := by
          unfold trackOf
          rw [if_neg hb, hidx, List.getD_eq_getElem?_getD]
          show ((L.kn J L.A.length).2[k]?.getD none).getD _ = _
          unfold Lp.kn
          rw [hsome]
          rfl
        rw [htr]
        obtain ⟨v, hv1, hv2⟩ := dpa_get (i := k) (d := dOpt (some (track L.w L.A.length L.pa (knownA L.w L.pa L.A J k).1 k p.1).2)) (dpa_ex e6 _ _ hw5) (by
          rw [List.getElem?_map]
          unfold Lp.kn
          rw [hsome]
          rfl)
        refine gd_ev (ev_ngetG (k := arrK (p.2, some p.1)) (Evl.ev_var rfl) (gd_tup (ds := [.int (p.2 : Nat), .int (p.1 : Nat)]) (ga_int (Evl.ev_var rfl) (ga_int (Evl.ev_var rfl) ga_nil)) (by simp)) (nd5.ex e6) (arr_depth _) ⟨_, rfl⟩ (zip_get (i := k) hkn (by rw [List.getElem?_map, hkA]; rfl) hv1)) hv2
    · have b6 := b5.tr (Ex.but e6)
      have hho6 := e6 _ _ (e5 _ _ hho4)
      obtain ⟨vd, hvd1, ⟨ds, rfl, hds⟩⟩ := (at_ _ b6).bywd.get (i := i) (r := rPk P w K (pairsL L.w) (L.fw i)) (by rw [List.getElem?_map, List.getElem?_range hin]; rfl)
      refine s_appS hho6 (Evl.ev_var rfl) (fun H7 e7 => ?_)
      have b7 := b6.tr (Ex.but e7)
      have I7 := at_ _ b7
      refine call_sp (vs := [.ref x, .ref ds, tv]) (Evl.ea_cons (Evl.ev_var rfl) (Evl.ea_cons (Evl.ev_op (ev_ins (i := 0) rfl I7.ins T.cl_EveryLaying T.n_EveryLaying_by_ways rfl) (Evl.ev_var rfl) (Evl.rv_ixL I7.byw (atI_nat hvd1))) (Evl.ea_cons (Evl.ev_var rfl) Evl.ea_nil))) (fun H8 e8 => ⟨L, x, Ja, _, ds, (rowAt L.S i).map (trackOf L.A (L.kn J L.A.length).2 i), L.fw i, tv, rfl, ⟨_, _, _, _, _, _, _, _, I7.ex e8⟩, hJ4.ex (Ex.tr e5 (Ex.tr e6 (Ex.tr e7 e8))), ?_, dp_ex (Ex.tr e7 e8) _ _ htv, ?_, ?_, ?_, fun v H9 b9 hJ9 hv9 => ?_⟩)
      · rw [List.length_map, hrl]
        exact hds.ex (Ex.tr e7 e8)
      · rw [List.length_map, hrl]
        exact ok.fw i hin
      · rw [List.length_map, hrl]
        exact ok.sm.w1
      · rw [List.length_map, hrl]
        omega
      · have hJ8 := hJ4.ex (Ex.tr e5 (Ex.tr e6 (Ex.tr e7 e8)))
        obtain ⟨vj8, hvj8⟩ := hJ8.lst
        have hho9 : H9 ho = some (.lst hs) := b9 _ _ hhoJ (e8 _ _ (e7 _ _ hho6))
        have hn9 := noT_lst hho9
        have hu9 := ExB.upd ho H9 (.lst (hs ++ [v]))
        have hhl : hs.length = i := by
          have := dpa_len hh4
          rw [List.length_map] at this
          rw [this]
          exact (homeA_len i (by omega)).2
        refine ⟨ho, hs, v, rfl, rfl, hho9, Evl.sz_lt (by omega), _, _, _, hs ++ [v], rfl, ((b7.tr (Ex.but e8)).tr b9).mut hhoH, ?_, ?_, ?_, upd_same, ?_⟩
        · rw [hstep]
          exact hJ9.mut hn9 hhoJ
        · exact ((nd5.ex (Ex.tr e6 (Ex.tr e7 e8))).but b9 (noT_lst hvj8) hkdJ).but hu9 hn9 (Ne.symm hhoK)
        · exact dpa_but (fun _ _ k => sqt_but hu9 hn9 k) _ _ (tup_all tup_Opt _) (dpa_butJ hJ8 b9 (tup_all tup_Opt _) (dpa_ex (Ex.tr e6 (Ex.tr e7 e8)) _ _ hw5))
        · rw [hstep]
          show DpAll K _ (hs ++ [v]) (((L.hm J i).2 ++ [_]).map dTg)
          rw [List.map_append]
          exact dpa_snoc (dpa_but (fun _ _ k => sqt_but hu9 hn9 k) _ _ (tup_all tup_Tg _) (dpa_butJ hJ8 b9 (tup_all tup_Tg _) (dpa_ex (Ex.tr e5 (Ex.tr e6 (Ex.tr e7 e8))) _ _ hh4))) (dp_but (fun _ _ k => sqt_but hu9 hn9 k) _ _ (tup_Tg _) hv9)
  -- the centre
  rintro σ' H4 ⟨x6, x7, x8, hs, rfl, b4, hJ4, _, _, hho4, hh4⟩
  rw [xrl] at hJ4 hh4
  have I4 := at_ _ b4
  have hhl : (L.hm J L.S.length).2.length = L.n := by
    have := (homeA_len (w := L.w) (pc := L.pc) (A := L.A) (kn := (L.kn J L.A.length).2) (S := L.S) (J := (L.kn J L.A.length).1) _ (Nat.le_refl _)).2
    rw [hSl] at this ⊢
    exact this
  refine q_callA (cons_Ev (v := .ref x) (Evl.ev_var rfl) (fun H5 e5 => cons_Ev (v := .ref aD) (by exact ev_ins (i := 0) rfl (I4.ex e5).ins T.cl_EveryLaying T.n_EveryLaying_by_arrivals rfl) (fun H6 e6 => cons_GD (r := rD K (.list ((L.A.map fun q => tgAt (L.hm J L.S.length).2 q.1).map dTg))) ?_ (fun tv H7 e7 htv => ?_))))
  · have e46 := Ex.tr e5 e6
    have I6 := I4.ex e46
    rw [List.map_map]
    refine gd_lst' (f := dTg ∘ fun q : Arr => tgAt (L.hm J L.S.length).2 q.1) (gd_lcPM (d1 := fun q : Arr => .int (q.1 : Nat)) (d2 := fun q : Arr => match q.2 with | some o => .int (o : Nat) | none => .none) (fun q : Arr => rD K (dTg (tgAt (L.hm J L.S.length).2 q.1))) (gi_list (ms := L.A) (f := dArr) (by exact gd_ev (ev_ins (i := 0) rfl I6.ins T.cl_EveryLaying T.n_EveryLaying_arrivals rfl) (.lst I6.arr I6.arrd))) (by have := ok.a2; omega) (fun q => but_D (tup_Tg _)) (by exact fun _ _ => rfl) (fun q hq y1 y2 H7 e7 hy1 hy2 => ?_))
    obtain rfl := dp_int hy1
    obtain ⟨v, hv1, hv2⟩ := tgAt_get (dpa_ex (Ex.tr e46 e7) _ _ hh4) (i := q.1) (by rw [hhl]; exact ok.lt q hq)
    exact gd_ev (Evl.ev_op (Evl.ev_var rfl) (Evl.ev_var rfl) (Evl.rv_ixL (Evl.sq_of (e7 _ _ (e6 _ _ (e5 _ _ hho4)))) (atI_nat hv1))) hv2
  · have e47 := Ex.tr e5 (Ex.tr e6 e7)
    have I7 := I4.ex e47
    have hAl : (L.A.map fun q : Arr => tgAt (L.hm J L.S.length).2 q.1).length = L.A.length := List.length_map _
    refine ⟨L, x, Ja, _, aD, L.A.map fun q : Arr => tgAt (L.hm J L.S.length).2 q.1, L.fa, tv, rfl, ⟨_, _, _, _, _, _, _, _, I7⟩, hJ4.ex e47, by rw [hAl]; exact I7.bya, htv, by rw [hAl]; exact ok.fa, by rw [hAl]; exact ok.a1, by rw [hAl]; have := ok.a2; omega, fun cv H8 b8 hJ8 hcv => ?_⟩
    have b08 := (b4.tr (Ex.but e47)).tr b8
    -- the entries
    refine qr_for (n := L.w) ?_ (by omega) (fun i σ' H' => ∃ x13 x14 x15, σ' = [some (.ref x), some sv, some (.ref kd0), x3, x4, some (.ref ho), x6, x7, x8, none, none, some cv, none, x13, x14, x15, none] ∧ ExB Ja H H' ∧ Jn K L H' Ja (L.en J i) ∧ Dp K H' cv (dTg (L.ce J).2)) (fun H9 e9 => ⟨_, _, _, rfl, b08.tr (Ex.but e9), hJ8.ex e9, dp_ex e9 _ _ hcv⟩) ?_ ?_
    · exact waysE _ _ rfl b08
    · rintro i σ' H9 hi ⟨x13, x14, x15, rfl, b9, hJ9, hcv9⟩
      refine Evl.q_asgL (Evl.el_lst (vs := []) Evl.ea_nil (by decide)) (fun mk H10 hmk e10 hmk10 => ?_)
      obtain ⟨vj9, hvj9⟩ := hJ9.lst
      have hmkJ : mk ≠ Ja := fun z => by rw [z, hvj9] at hmk; cases hmk
      have hmkH : mk = mk ∧ H mk = none := by
        refine ⟨rfl, ?_⟩
        cases hh : H mk with
        | none => rfl
        | some oo =>
          have := b9 _ _ hmkJ hh
          rw [this] at hmk
          cases hmk
      have b10 := b9.tr (Ex.but e10)
      have I10 := at_ _ b10
      refine ql_for (xs := bs) (ev_ins (i := 0) rfl I10.ins T.cl_EveryLaying T.n_EveryLaying_by_ways rfl) I10.byw (fun c σ' H' => ∃ x15 ms, σ' = [some (.ref x), some sv, some (.ref kd0), x3, x4, some (.ref ho), x6, x7, x8, none, none, some cv, none, some (.int (i : Nat)), some (.ref mk), x15, none] ∧ ExB Ja H H' ∧ Jn K L H' Ja (L.en J i) ∧ Dp K H' cv (dTg (L.ce J).2) ∧ H' mk = some (.lst ms) ∧ DpAll K H' ms (((List.range c).flatMap fun s => (others L.w i).map (markOf (L.pc s) i)).map dMark)) (fun H11 e11 => ⟨_, [], rfl, b10.tr (Ex.but e11), hJ9.ex (Ex.tr e10 e11), dp_ex (Ex.tr e10 e11) _ _ hcv9, e11 _ _ hmk10, .nil⟩) (fun c σ' H' z => by obtain ⟨_, _, _, b, _⟩ := z; exact (at_ _ b).byw) ?_ ?_
      · rintro c z σ' H11 hz ⟨x15, ms, rfl, b11, hJ11, hcv11, hmk11, hms⟩
        have hcn : c < L.n := by rw [← bl]; exact (List.getElem?_eq_some_iff.mp hz).1
        obtain ⟨r, hr1, hr2⟩ := (at_ _ b11).bywd.getV hz
        rw [List.getElem?_map, List.getElem?_range hcn] at hr1
        cases hr1
        have hol : (others L.w i).length ≤ 6 := by
          unfold others
          refine Nat.le_trans (List.length_filter_le _ _) ?_
          rw [List.length_range]
          exact hw2
        have hmsl : ms.length ≤ c * 6 := by
          have h1 := dpa_len hms
          rw [List.length_map] at h1
          rw [h1, List.length_flatMap]
          have key : ∀ l : List Nat, ((l.map fun s => ((others L.w i).map (markOf (L.pc s) i)).length).sum) ≤ l.length * 6 := by
            intro l
            induction l with
            | nil => simp
            | cons a l ih =>
              rw [List.map_cons, List.sum_cons, List.length_cons, List.length_map]
              omega
          have := key (List.range c)
          rw [List.length_range] at this
          exact this
        refine s_extG (rs := (others L.w i).map fun o : Nat => rD K (dMark (markOf (L.pc c) i o))) hmk11 (Evl.ev_var rfl) ?_ (by rw [List.length_map]; omega) (fun ys H12 e12 hys => ?_)
        · refine gl_lcN (ms := List.range L.w) (e := fun i : Nat => rV (.int (i : Nat))) (fun o : Nat => decide (o ≠ i)) (fun o : Nat => rD K (dMark (markOf (L.pc c) i o))) (gi_rng1 (waysE _ _ rfl b11) (by omega)) (by rw [List.length_range]; omega) (fun _ => but_D rfl) (by exact fun _ => rfl) (fun o ho y H12 e12 hy => ?_) (fun o ho y H12 e12 hy hp => ?_)
          · have hy : y = .int (o : Nat) := hy
            subst hy
            exact Evl.et_B (Evl.ev_op (Evl.ev_var rfl) (Evl.ev_var rfl) (rv_neI dec_ne_nat))
          · have hy : y = .int (o : Nat) := hy
            subst hy
            exact gd_call (rel := rel_mark_of P w K) (ga_cons (gd_v (i := 15) rfl ((rPk P w K (pairsL L.w) (L.fw c)).up e12 hr2)) (ga_int (Evl.ev_var rfl) (ga_int (Evl.ev_var rfl) ga_nil))) (.mk L.w i o (L.fw c) hi (List.mem_range.mp ho) (Ne.symm (of_decide_eq_true hp)))
        · have hu12 := ExB.upd mk H12 (.lst (ms ++ ys))
          have hmk12 := e12 _ _ hmk11
          have hn12 := noT_lst hmk12
          refine ⟨_, ms ++ ys, rfl, (b11.tr (Ex.but e12)).mut hmkH.2, (hJ11.ex e12).mut hn12 hmkJ, dp_but (fun _ _ k => sqt_but hu12 hn12 k) _ _ (tup_Tg _) (dp_ex e12 _ _ hcv11), upd_same, ?_⟩
          rw [List.range_succ, List.flatMap_append, List.map_append]
          refine dpa_app (dpa_but (fun _ _ k => sqt_but hu12 hn12 k) _ _ (tup_all (fun _ => rfl) _) (dpa_ex e12 _ _ hms)) (dpa_but (fun _ _ k => sqt_but hu12 hn12 k) _ _ (tup_all (fun _ => rfl) _) ?_)
          have e : ((others L.w i).map fun o : Nat => rD K (dMark (markOf (L.pc c) i o))) = ((([c] : List Nat).flatMap fun s => (others L.w i).map (markOf (L.pc s) i)).map dMark).map (rD K) := by
            simp [List.map_map, Function.comp_def]
          rw [e] at hys
          exact hys.data
      · rintro σ' H11 ⟨x15, ms, rfl, b11, hJ11, hcv11, hmk11, hms⟩
        rw [bl] at hms
        refine meth_sp (vs := [.ref mk, cv]) (Evl.ev_var rfl) (at_ _ b11).ins rfl (Evl.ea_cons (Evl.ev_var rfl) (Evl.ea_cons (Evl.ev_var rfl) Evl.ea_nil)) (fun H12 e12 => ⟨L, x, Ja, _, mk, entryMarks L.n L.w L.pc i, _, cv, rfl, ⟨_, _, _, _, _, _, _, _, (at_ _ b11).ex e12⟩, hJ11.ex e12, hmkJ, ⟨ms, Evl.sq_of (e12 _ _ hmk11), dpa_ex e12 _ _ hms⟩, dp_ex e12 _ _ hcv11, ?_, ?_, fun v H13 b13 hJ13 hv13 => ?_⟩)
        · intro m hm
          obtain ⟨s, hs, hm⟩ := List.mem_flatMap.mp hm
          obtain ⟨o, ho, rfl⟩ := List.mem_map.mp hm
          obtain ⟨ho1, ho2⟩ := others_mem ho
          exact markOf_ok (f := L.fw s) hi ho1 (Ne.symm ho2) (ok.fw s (List.mem_range.mp hs))
        · have h1 := dpa_len hms
          rw [List.length_map] at h1
          unfold entryMarks
          rw [List.length_flatMap]
          have key : ∀ l : List Nat, ((l.map fun s => ((others L.w i).map (markOf (L.pc s) i)).length).sum) ≤ l.length * 6 := by
            intro l
            induction l with
            | nil => simp
            | cons a l ih =>
              have hol : (others L.w i).length ≤ 6 := by
                unfold others
                refine Nat.le_trans (List.length_filter_le _ _) ?_
                rw [List.length_range]
                exact hw2
              rw [List.map_cons, List.sum_cons, List.length_cons, List.length_map]
              omega
          have := key (List.range L.n)
          rw [List.length_range] at this
          omega
        · have b13' := (b11.tr (Ex.but e12)).tr b13
          have hen : L.en J (i + 1) = entryStep L.S.length L.w L.pc (L.ce J).2 (L.en J i) i := by
            unfold Lp.en
            rw [List.range_succ, List.foldl_append]
            rfl
          obtain ⟨hl13, vs, hj1, hj2⟩ := hJ13
          have hil : i < vs.length := by
            have := dpa_len hj2
            rw [List.length_map] at this
            omega
          refine ev_ins (i := 0) rfl (at_ _ b13').ins T.cl_EveryLaying T.n_EveryLaying_joins rfl H13 Ex.rfl' _ fun H14 e14 => ⟨.int (i : Nat), rfl, Ja, vs, (i : Nat), i, rfl, rfl, e14 _ _ hj1, Evl.ixN_nat hil, ?_⟩
          have hu14 := ExB.upd Ja H14 (.lst (vs.set i v))
          have hn14 := noT_lst (e14 _ _ hj1)
          refine ⟨_, _, _, rfl, (b13'.tr (Ex.but e14)).tr hu14, ⟨?_, _, upd_same, ?_⟩, ?_⟩
          · rw [hen]
            show ((marked _ _ _ _).1.set _ _).length = _
            rw [List.length_set, hSl]
            exact hl13
          · rw [hen]
            show DpAll K _ _ (((marked _ _ (entryMarks L.S.length L.w L.pc i) _).1.set i _).map dTg)
            rw [List.map_set, hSl]
            exact dpa_set (dp_but (fun _ _ k => sqt_but hu14 hn14 k) _ _ (tup_Tg _) (dp_ex e14 _ _ hv13)) _ (dpa_but (fun _ _ k => sqt_but hu14 hn14 k) _ _ (tup_all tup_Tg _) (dpa_ex e14 _ _ hj2))
          · exact dp_but (fun _ _ k => sqt_but hu14 hn14 k) _ _ (tup_Tg _) (dp_ex e14 _ _ (dp_butJ (hJ11.ex e12) b13 (tup_Tg _) (dp_ex e12 _ _ hcv11)))
    · rintro σ' H9 ⟨x13, x14, x15, rfl, b9, hJ9, hcv9⟩
      exact hQ H9 b9 (by rw [Lp.lay_eq]; exact hJ9)
end Mk
namespace Mk
open PySem PySem.Spec PyProof.Rows L2
theorem idx_first' {b : Nat} : ∀ {l : List Nat}, b ∈ l → l[l.idxOf b]? = some b ∧ ∀ m, m < l.idxOf b → ∀ z, l[m]? = some z → z ≠ b
  | a :: l, h => by
    by_cases e : a = b
    · subst e
      simp
    · have hl : b ∈ l := by
        rcases List.mem_cons.mp h with z | z
        · exact absurd z.symm e
        · exact z
      have ih := idx_first' hl
      have hi : (a :: l).idxOf b = l.idxOf b + 1 := by
        rw [List.idxOf_cons, show (a == b) = false by simpa using e]
        rfl
      rw [hi]
      refine ⟨by simpa using ih.1, fun m hm z hz => ?_⟩
      cases m with
      | zero =>
        have : a = z := by simpa using hz
        rw [← this]
        exact e
      | succ m => exact ih.2 m (by omega) z (by simpa using hz)
theorem eqV_nat {a b : Nat} : eqV (.int (a : Nat)) (.int (b : Nat)) = decide (a = b) := by
  by_cases h : a = b
  · subst h
    simp [eqV]
  · have : ¬ ((a : Int) = (b : Int)) := fun z => h (Int.ofNat_inj.mp z)
    simp [eqV, h, this]
section
variable {P : Program} {w : World} {K : PySem.W.Frag} {σ : L2.St} {H : Hp} {to te tb : TE} {v : V}
theorem ev_index {l : List Nat} {b : Nat} (h : GD to σ H (rD K (lotsD l))) (hy : Evl.Ev te σ H (.int (b : Nat))) (hb : b ∈ l) : Evl.Ev (tBM K "list" (rIndex K) to (tCons te tNil)) σ H (.int (l.idxOf b : Nat)) := fun H1 e Q q =>
  h H1 e _ fun x H2 e2 hx => by
    obtain ⟨a, xs, rfl, h1, h2⟩ := dp_lst (show Dp K H2 x (.list (l.map fun n => .int (n : Nat))) from hx)
    have exs := ints_eq h2
    rw [List.map_map] at exs
    subst exs
    refine ⟨Or.inl ⟨rfl, _, h1⟩, hy H2 (Ex.tr e e2) _ fun H3 e3 => ?_⟩
    obtain ⟨i1, i2⟩ := idx_first' hb
    refine ⟨a, _, .int (b : Nat), l.idxOf b, .int (b : Nat), rfl, rfl, sql_ex e3 h1, rfl, ?_, ?_, ?_, ?_, q H3 (Ex.tr e2 e3)⟩
    · have := flat_ints (l.map fun n => ((n : Nat) : Int))
      rwa [List.map_map] at this
    · rw [List.getElem?_map, i1]
      rfl
    · rw [eqV_nat]
      simp
    · intro m z hm hz
      rw [List.getElem?_map] at hz
      cases q1 : l[m]? with
      | none => rw [q1] at hz; cases hz
      | some n =>
        rw [q1] at hz
        cases hz
        show eqV (.int ((n : Nat) : Int)) _ = false
        rw [eqV_nat]
        exact decide_eq_false (i2 m hm n q1)
theorem gl_ints {α : Type} {l : List α} {f : α → Nat} (h : GL to σ H (l.map fun m => rV (.int (f m : Nat)))) : GD to σ H (rD K (lotsD (l.map f))) := gd_to (GL.gd (K := K) h) fun x H2 _ hh => by
  obtain ⟨a, xs, h0, h1, h2⟩ := hh
  have e := alls_val h2
  subst h0 e
  refine .lst h1 ?_
  have key : ∀ l : List α, DpAll K H2 (l.map fun m => V.int (f m : Nat)) ((l.map f).map fun n => PyData.int (n : Nat)) := by
    intro l
    induction l with
    | nil => exact .nil
    | cons n l ih => exact .cons (.int _) ih
  exact key l
theorem alls_zeros (H : Hp) : ∀ n : Nat, Alls (List.replicate n (rV (.int 0))) (List.replicate n (.int 0)) H
  | 0 => trivial
  | n + 1 => ⟨rfl, alls_zeros H n⟩
theorem gl_rep {n : Nat} (h : Evl.Ev tb σ H (.int (n : Int))) (hn : n ≤ 100000) : GL (tOp rRep (tLst (tCons (tC (.int 0)) tNil)) tb) σ H (List.replicate n (rV (.int 0))) := fun H1 e Q q => ⟨by show 1 ≤ sizeLine; decide, fun p hp => h _ (Ex.tr e (Ex.nw hp)) _ fun H2 e2 =>
  ⟨p, n, _, rfl, rfl, e2 _ _ upd_same, by omega, by omega, by simp; exact Evl.sz_of hn, fun l hl => q l (List.replicate n (.int 0)) _ (Evl.fresh_back (Ex.tr (Ex.nw hp) e2) hl) (Ex.tr (Ex.nw hp) (Ex.tr e2 (Ex.nw hl))) (by rw [Int.toNat_natCast, flat_rep]; exact upd_same) (alls_zeros _ n)⟩⟩
theorem ev_intB {b : Bool} (h : Evl.Ev te σ H (.bl b)) : Evl.Ev (tCB (fun xs H Q => (∃ i, xs = [.int i] ∧ Q (.int i) H) ∨ ∃ k, xs = [.bl k] ∧ Q (.int (if k then 1 else 0)) H) (tCons te tNil)) σ H (.int (if b then 1 else 0)) := fun H1 e Q q => h H1 e _ fun H2 e2 => .inr ⟨b, rfl, q H2 e2⟩
theorem ev_intI {i : Int} (h : Evl.Ev te σ H (.int i)) : Evl.Ev (tCB (fun xs H Q => (∃ i, xs = [.int i] ∧ Q (.int i) H) ∨ ∃ k, xs = [.bl k] ∧ Q (.int (if k then 1 else 0)) H) (tCons te tNil)) σ H (.int i) := fun H1 e Q q => h H1 e _ fun H2 e2 => .inl ⟨i, rfl, q H2 e2⟩
theorem walk_itemsN {d : Addr} {o : Obj} {es : List NE} : Walk (ItiN P w d o es) es.length (fun H => H d = some (.frz o (NdO P w d es))) (fun i H x H' => ∃ T k a v, es[i]? = some (k, a, v) ∧ x = .ref T ∧ H T = none ∧ H' = upd H T (.tup [.ref a, v])) :=
  ⟨fun _ _ hi q => ⟨q, hi⟩, fun _ q => ⟨q, Nat.le_refl _⟩, fun _ _ _ _ _ _ y => y⟩
/-- an entry of a dict of pairs -/
theorem pkv_at {ps : List (Nat × Nat)} {f : Nat × Nat → Nat} {es : List NE} (h : es.map (fun e => (e.1, e.2.2)) = pkv ps f) {i : Nat} {k : NestedKey} {a : Addr} {v : V} (he : es[i]? = some (k, a, v)) : ∃ q, ps[i]? = some q ∧ k = pairK q ∧ v = .int (f q : Nat) := by
  have h1 : (es.map (fun e => (e.1, e.2.2)))[i]? = some (k, v) := by rw [List.getElem?_map, he]; rfl
  rw [h] at h1
  unfold pkv at h1
  rw [List.getElem?_map] at h1
  cases q : ps[i]? with
  | none => rw [q] at h1; cases h1
  | some q' =>
    rw [q] at h1
    cases h1
    exact ⟨q', rfl, rfl, rfl⟩
end
/-- a dict's items, the dict held -/
theorem for_items {P : Program} {w : World} {σ : L2.St} {H : Hp} {te : TE} {D : Ends} {tu : TS} {g : TG} {d : Addr} {o : Obj} {es : List NE} (h : Evl.Ev te σ H (.ref d)) (hd : H d = some (.frz o (NdO P w d es))) (Pv : Nat → L2.St → Hp → Prop) (h0 : ∀ H2, Ex H H2 → Pv 0 σ H2) (hG : ∀ i σ' H', Pv i σ' H' → H' d = some (.frz o (NdO P w d es)))
    (hs : ∀ i T k a v σ' H', es[i]? = some (k, a, v) → Pv i σ' H' → H' T = none → g (.ref T) σ' (upd H' T (.tup [.ref a, v])) fun σ2 H3 => tu { D with nx := Pv (i + 1), ct := Pv (i + 1), bk := D.nx } σ2 H3) (hn : ∀ σ' H', Pv es.length σ' H' → D.nx σ' H') : tFor (iItemsN P w te) g tu D σ H :=
  h H Ex.rfl' _ fun H2 e2 => ⟨d, o, es, rfl, e2 _ _ hd, for_it walk_itemsN Pv (h0 H2 e2) (fun i σ' H' _ p => hG i σ' H' p) (fun i x σ' H' H'' hi p y => by
    obtain ⟨T, k, a, v, he, rfl, hT, rfl⟩ := y
    exact hs i T k a v σ' H' he p hT) hn⟩
end Mk
namespace Mk
open PySem PySem.Spec PyProof.Rows L2

/-! ### Laying.web -/
abbrev N_Laying_web : List Str := ["self", "begins"]
theorem sc_Laying_web : FnScope N_Laying_web ["self", "begins"] (defScope s_Laying_web) := ⟨rfl, rfl, rfl, by decide +kernel, rfl, by decide +kernel, by decide +kernel⟩
def SpWeb (P : Program) (w : World) (K : PySem.W.Frag) : Sp := fun vs H Q E => ∃ L x Ja J bs bv, vs = [.ref x, bv] ∧ LayOn P w K L x Ja H ∧ Jn K L H Ja J ∧ Dp K H bv (.list (dBits bs)) ∧ WebOk bs L.w L.e J ∧ ∀ v H', Ex H H' → (webR K bs L.w L.e J).on v H' → Q v H'

theorem ok_Laying_web {P : Program} {w : World} {K : PySem.W.Frag} {mg : Str → Option Value} {base : Heap} (T : Txt K mg) : CalM P w K mg base (He.ga K "EveryLaying") "web" 7 ["self", "begins"] (SpWeb P w K) := by
  refine meth_of (st := s_Laying_web) T.cl_EveryLaying T.m_EveryLaying_web (T.d.def_ 43 rfl) (fun _ _ _ _ _ _ us hl => match us, hl with | [_, _], _ => rfl) sc_Laying_web (fun vs H Q E hsp => by obtain ⟨_, _, _, _, _, _, rfl, _⟩ := hsp; rfl) fun cdv A outer s H vs Q E hr hsp => ?_
  have hu := hr.units
  have hu0 := hu_of hr
  have hu65 := hu65_of hr
  refine ⟨_, (pss_one (ps_ret (pe_calI (ok_Web_init (P := P) (w := w) (base := base) T) (hr.mono (by decide)) rfl (pa_cons (pe_fld (pv 0) rfl) (pa_cons (pv 1) (pa_cons (pe_fld (pe_fld (pv 0) rfl) rfl) (pa_cons (pe_fld (pe_fld (pv 0) rfl) rfl) (pa_cons (pe_fld (pv 0) rfl) pa_nil)))))))), ?_⟩

  obtain ⟨L, x, Ja, J, bs, bv, rfl, ⟨dx, aA, aB, aD, xs, bw, kv, sv, I⟩, ⟨hl, vs, hj1, hj2⟩, hb, ok, hQ⟩ := hsp
  have sml : GD (tFld K (tVar 0) "small") (start N_Laying_web [.ref x, bv]) H (tabR K L.e L.n L.w L.S) := gd_ev (ev_ins (i := 0) rfl I.ins T.cl_EveryLaying T.n_EveryLaying_small rfl) I.small
  exact g_ret (gd_make (F := webF K bs L.w L.e J) (ga_cons (gd_ev (ev_ins (i := 0) rfl I.ins T.cl_EveryLaying T.n_EveryLaying_kind rfl) I.kind) (ga_cons (gd_v (i := 1) rfl hb) (ga_cons (gd_fld sml T.cl_Table T.n_Table_ways) (ga_cons (gd_fld sml T.cl_Table T.n_Table_exits) (ga_1 (gd_ev (v := .ref Ja) (ev_ins (i := 0) rfl I.ins T.cl_EveryLaying T.n_EveryLaying_joins rfl) (r := rD K (.list (J.map dTg))) (.lst (Evl.sq_of hj1) hj2))))))) (.mk bs L.w L.e J ok)) (fun v H1 e1 hv => hQ v H1 e1 hv)
/-! ### EveryLaying.opened -/
abbrev N_EveryLaying_opened : List Str := ["self", "start", "first", "later", "_", "begins", "one", "piece"]
theorem sc_EveryLaying_opened : FnScope N_EveryLaying_opened ["self", "start"] (defScope s_EveryLaying_opened) := ⟨rfl, rfl, rfl, by decide +kernel, rfl, by decide +kernel, by decide +kernel⟩
def firstOf (A : List Arr) : Nat := (A.map (·.1)).idxOf 0
def Lp.begs (L : Lp) : List Nat := begF L.many L.A.length L.fa (firstOf L.A)
def SpOpened (P : Program) (w : World) (K : PySem.W.Frag) : Sp := fun vs H Q E => ∃ L x Ja J, vs = [.ref x, .int 0] ∧ LayOn P w K L x Ja H ∧ Jn K L H Ja J ∧ 0 ∈ L.A.map (·.1) ∧ L.A.length ≤ 400 ∧ (∀ q ∈ pairsL L.A.length, L.fa q < L.many) ∧ WebOk L.begs L.w L.e J ∧ ∀ v H', Ex H H' → (webR K L.begs L.w L.e J).on v H' → Q v H'

theorem ok_EveryLaying_opened {P : Program} {w : World} {K : PySem.W.Frag} {mg : Str → Option Value} {base : Heap} (T : Txt K mg) : CalM P w K mg base (He.ga K "EveryLaying") "opened" 8 ["self", "start"] (SpOpened P w K) := by
  refine meth_of (st := s_EveryLaying_opened) T.cl_EveryLaying T.m_EveryLaying_opened (T.d.def_ 46 rfl) (fun _ _ _ _ _ _ us hl => match us, hl with | [_, _], _ => rfl) sc_EveryLaying_opened (fun vs H Q E hsp => by obtain ⟨_, _, _, _, rfl, _⟩ := hsp; rfl) fun cdv A outer s H vs Q E hr hsp => ?_
  have hu := hr.units
  have hu0 := hu_of hr
  have hu65 := hu65_of hr
  refine ⟨_, (pss_cons (ps_set (i := 2) sc_EveryLaying_opened.nd rfl (Or.inl rfl) (pe_bm PySem.F.plainAttrs_list PySem.F.slot_list_index PySem.F.type_list_index mt_index (pe_lc rfl sc_EveryLaying_opened.nd (pi_list (pe_fld (pv 0) rfl)) (blkOk_by (own := [("later", 3), ("_", 4)]) rfl) (fun _ _ _ _ _ => (show PG _ _ (gTup K 2 _) from (pg_tup rfl (pgs_cons (pg_name (i := 3) sc_EveryLaying_opened.nd rfl (Or.inl rfl)) (pgs_cons (pg_name (i := 4) sc_EveryLaying_opened.nd rfl (Or.inl rfl)) pgs_nil))))) (fun _ _ _ _ _ => pts_nil) (fun _ _ _ _ _ => (pv 3))) (pa_cons (pv 1) pa_nil)))
      (pss_cons (ps_set (i := 5) sc_EveryLaying_opened.nd rfl (Or.inl rfl) (pe_op op_rep (pe_lst (pa_cons pe_int pa_nil)) (pe_fld (pv 0) rfl)))
      (pss_cons (ps_lock (ps_for PassesOwn.never rfl (pi_itemsN (pe_fld (pv 0) rfl)) (pg_tup rfl (pgs_cons (pg_tup rfl (pgs_cons (pg_name (i := 6) sc_EveryLaying_opened.nd rfl (Or.inl rfl)) (pgs_cons (pg_name (i := 4) sc_EveryLaying_opened.nd rfl (Or.inl rfl)) pgs_nil))) (pgs_cons (pg_name (i := 7) sc_EveryLaying_opened.nd rfl (Or.inl rfl)) pgs_nil)))
      (pss_one (ps_asg (pe_callTy (T := "int") call_int1 (by rfl) T.f_int (by decide +kernel) (pa_cons (pe_cmpR op_eq (pv 6) (pv 2) (nomark _)) pa_nil)) (pg_sub (pv 5) (pv 7) set_list)))))
      (pss_one (ps_ret (pe_calM (ok_Laying_web (P := P) (w := w) (base := base) T) (hr.mono (by decide)) (pv 0) (pa_cons (pv 5) pa_nil))))))), ?_⟩

  obtain ⟨L, x, Ja, J, rfl, I, hJ, h0A, hA, hfa, ok, hQ⟩ := hsp
  have I' := I
  obtain ⟨dx, aA, aB, aD, xs, bw, kv, sv, Ic⟩ := I'
  have hL : GD (tLc (iList K (tFld K (tVar 0) "arrivals")) (gTup K 2 (gCons (gName 3) (gCons (gName 4) gNil))) tYes (tVar 3) [3, 4]) (start N_EveryLaying_opened [.ref x, .int 0]) H (rD K (lotsD (L.A.map fun q : Arr => q.1))) :=
    gl_ints (gl_lcPM (d1 := fun q : Arr => .int (q.1 : Nat)) (d2 := fun q : Arr => match q.2 with | some o => .int (o : Nat) | none => .none) (fun q : Arr => rV (.int (q.1 : Nat))) (gi_list (ms := L.A) (f := dArr) (gd_ev (ev_ins (i := 0) rfl Ic.ins T.cl_EveryLaying T.n_EveryLaying_arrivals rfl) (.lst Ic.arr Ic.arrd))) (by omega) (fun _ => but_V) (fun _ _ => rfl) (fun q hq y1 y2 H1 e1 hy1 hy2 => gd_ev (Evl.ev_var rfl) (r := rV (.int (q.1 : Nat))) (dp_int hy1)))
  refine Evl.q_asg (v := .int (firstOf L.A : Nat)) (ev_index hL (b := 0) (Evl.ev_var rfl) h0A) (fun H1 e1 => ?_)
  have hmany : L.many ≤ 1200 := by have := ok.b2; unfold Lp.begs at this; rw [begF_len] at this; exact this
  refine gl_rep (n := L.many) (ev_ins (i := 0) (σ := (start N_EveryLaying_opened [.ref x, .int 0]).set 2 (some (.int (firstOf L.A : Nat)))) rfl (Ic.ex e1).ins T.cl_EveryLaying T.n_EveryLaying_many rfl) (by omega) H1 Ex.rfl' _ (fun bl bvs H2 hbl e2 hbl2 hbv => ?_)
  have hbv : bvs = (List.replicate L.many 0).map fun n => V.int (n : Nat) := by
    have e : (List.replicate L.many (rV (.int 0))) = (List.replicate L.many (0 : Nat)).map fun n => rV (.int (n : Nat)) := by rw [List.map_replicate]; rfl
    rw [e] at hbv
    exact alls_val hbv
  subst hbv
  have I2 := (Ic.ex e1).ex e2
  obtain ⟨es, hd, hes, hk⟩ := I2.bya
  have hblD : bl ≠ aD := fun z => by
    have := e2
    obtain ⟨es1, hd1, _⟩ := (Ic.ex e1).bya
    rw [z, hd1] at hbl
    cases hbl
  have hesl : es.length = (pairsL L.A.length).length := by
    have := congrArg List.length hes
    rw [List.length_map] at this
    rw [this]
    unfold pkv
    rw [List.length_map]
  have nT1 : NoT H2 aD := noT_ext hd
  have nT2 : NoT H2 bl := noT_lst hbl2
  have hxD : x ≠ aD := fun z => by have := I2.ins; rw [z, hd] at this; cases this
  refine ⟨aD, NdO P w aD es, hd, trivial, fun od => ?_⟩
  have insD : (upd H2 aD (.frz od (NdO P w aD es))) x = some (.ins (cE K) dx (layFs L aA aB aD Ja kv sv)) := by rw [upd_ne hxD]; exact I2.ins
  refine for_items (ev_ins (i := 0) rfl insD T.cl_EveryLaying T.n_EveryLaying_by_arrivals rfl) upd_same (fun i σ' H' => ∃ x4 x6 x7, σ' = [some (.ref x), some (.int 0), some (.int (firstOf L.A : Nat)), none, x4, some (.ref bl), x6, x7] ∧ H' aD = some (.frz od (NdO P w aD es)) ∧ (∀ a o, a ≠ aD → a ≠ bl → H2 a = some o → H' a = some o) ∧ H' bl = some (.lst ((begTo L.many L.A.length L.fa (firstOf L.A) i).map fun n => .int (n : Nat)))) (fun H4 e4 => ⟨_, _, _, rfl, e4 _ _ upd_same, fun a o ha _ ho => e4 _ _ (by rw [upd_ne ha]; exact ho), e4 _ _ (by rw [upd_ne hblD]; exact hbl2)⟩) (fun i σ' H' z => by obtain ⟨_, _, _, _, z, _⟩ := z; exact z) ?_ ?_
  · rintro i Tt k a v σ' H5 he ⟨x4, x6, x7, rfl, hd5, b5, hbl5⟩ hT
    obtain ⟨q, hq, rfl, rfl⟩ := pkv_at hes he
    have hqm := List.mem_of_getElem? hq
    have hka := (hk _ (List.mem_of_getElem? he)).2
    have eT : Ex H5 (upd H5 Tt (.tup [.ref a, .int (L.fa q : Nat)])) := Ex.nw hT
    have hka5 : Dp K (upd H5 Tt (.tup [.ref a, .int (L.fa q : Nat)])) (.ref a) (.tuple [.int (q.1 : Nat), .int (q.2 : Nat)]) := dp_ex eT _ _ (dp_but (fun c ys hc => by
      rcases hc with hc | hc
      · have h1 : c ≠ aD := fun z => by rw [z] at hc; exact nT1 _ hc
        have h2 : c ≠ bl := fun z => by rw [z] at hc; exact nT2 _ hc
        rcases hc with hc | ⟨ob, hc⟩
        · exact .inl (.inl (b5 _ _ h1 h2 hc))
        · exact .inl (.inr ⟨ob, b5 _ _ h1 h2 hc⟩)
      · exact .inr hc) (.tuple [.int (q.1 : Nat), .int (q.2 : Nat)]) (.ref a) rfl hka)
    refine ⟨Tt, _, rfl, Evl.st_of upd_same, rfl, _, _, rfl, gtup2 hka5 fun y1 y2 hy1 hy2 => ?_⟩
    obtain rfl := dp_int hy1
    obtain rfl := dp_int hy2
    refine ⟨_, _, rfl, rfl, ?_⟩
    have hfq := hfa q hqm
    refine Evl.s_setL (l := bl) (xs := (begTo L.many L.A.length L.fa (firstOf L.A) i).map fun n => .int (n : Nat)) (v := .int ((if q.1 = firstOf L.A then 1 else 0 : Nat) : Int)) (j := L.fa q) (eT _ _ hbl5) (Evl.ev_is (ev_intB (Evl.ev_op (Evl.ev_var rfl) (Evl.ev_var rfl) (rv_eqI dec_eq_nat))) (by by_cases h : q.1 = firstOf L.A <;> simp [h])) (Evl.ev_var rfl) (Evl.ev_var rfl) (by rw [List.length_map, begTo_len]; exact hfq) (fun H7 e7 => ⟨_, _, _, rfl, ?_, ?_, ?_⟩)
    · rw [upd_ne (Ne.symm hblD)]
      exact e7 _ _ (eT _ _ hd5)
    · intro c o h1 h2 ho
      rw [upd_ne h2]
      exact e7 _ _ (eT _ _ (b5 _ _ h1 h2 ho))
    · rw [upd_same, begTo_succ hq]
      unfold begStep
      rw [List.map_set]
  · rintro σ' H5 ⟨x4, x6, x7, rfl, hd5, b5, hbl5⟩
    refine ⟨hd5, ?_⟩
    have eE : Ex H (upd H5 aD (NdO P w aD es)) := fun c o hc => by
      have hc2 := e2 _ _ (e1 _ _ hc)
      by_cases h1 : c = aD
      · rw [h1, upd_same, ← hd, ← h1]
        exact hc2
      · rw [upd_ne h1]
        exact b5 _ _ h1 (fun z => by rw [z] at hc; have := e1 _ _ hc; rw [hbl] at this; cases this) hc2
    have hbe : begTo L.many L.A.length L.fa (firstOf L.A) es.length = L.begs := by
      unfold begTo Lp.begs begF
      rw [hesl, List.take_length]
    rw [hbe] at hbl5
    have hbl6 : (upd H5 aD (NdO P w aD es)) bl = some (.lst (L.begs.map fun n => .int (n : Nat))) := by rw [upd_ne hblD]; exact hbl5
    refine meth_sp (vs := [.ref bl]) (Evl.ev_var rfl) (Ic.ex eE).ins rfl (Evl.ea_cons (Evl.ev_var rfl) Evl.ea_nil) (fun H6 e6 => ⟨L, x, Ja, J, L.begs, .ref bl, rfl, ⟨_, _, _, _, _, _, _, _, (Ic.ex eE).ex e6⟩, (hJ.ex eE).ex e6, ints_but (H' := H6) (e6 _ _ hbl6), ok, fun v H7 e7 hv => hQ v H7 (Ex.tr eE (Ex.tr e6 e7)) hv⟩)
end Mk
namespace Mk
open PySem PySem.Spec PyProof.Rows L2
theorem PS.nox' {X : Cx} {st : Stmt} {t : TS} (h : PS X.nox st t) : PS X st t := ⟨fun pins s σ H D I hw =>
  wpAny_mono (h.run pins s σ H D (I.wish _) hw) (fun _ _ q => q.unwish) fun _ _ z => False.elim z⟩
theorem pkv_take_succ {ps : List (Nat × Nat)} {g : Nat × Nat → Nat} {i : Nat} {q : Nat × Nat} (hn : ps.Nodup) (h : ps[i]? = some q) : putK (pkv (ps.take i) g) (pairK q) (.int (g q : Nat)) = pkv (ps.take (i + 1)) g := by
  have hni : ((pkv (ps.take i) g).any fun kv => decide (kv.1 = pairK q)) = false := by
    rw [List.any_eq_false]
    intro kv hkv
    obtain ⟨p, hp, rfl⟩ := List.mem_map.mp hkv
    have : ¬ pairK p = pairK q := fun z => by
      have := pairK_inj z
      subst this
      obtain ⟨j, hj, e⟩ := List.mem_take_iff_getElem.mp hp
      obtain ⟨h1, h2⟩ := List.getElem?_eq_some_iff.mp h
      have := (List.getElem_inj hn).mp (e.trans h2.symm)
      omega
    simpa using this
  unfold putK
  rw [if_neg (by rw [hni]; decide), List.take_succ, h]
  unfold pkv
  rw [List.map_append]
  rfl
section
variable {P : Program} {w : World} {K : PySem.W.Frag} {σ : L2.St} {H : Hp} {te tv : TE} {i j : Nat} {vs : List Nat} {ps : List (Nat × Nat)} {f g : Nat × Nat → Nat} {d : Addr}
theorem noT_frz {o : Obj} {es : List NE} (h : H d = some (.frz o (NdO P w d es))) : NoT H d := noT_of h (fun _ e => nomatch e) fun _ _ e => nomatch e
/-- {pair: e for pair, number in d.items()} -/
theorem gd_dcN (hd : ND P w K H d (pkv ps f)) (hn : ps.Nodup) (hz : ps.length < 90000) (he : ∀ H1, (∀ c o, c ≠ d → H c = some o → H1 c = some o) → Evl.Ev te σ H1 (.ref d))
    (hw : ∀ x y, wipe (((wipe σ vs).set i (some x)).set j (some y)) vs = wipe σ vs) (hi : ∀ x y, (((wipe σ vs).set i (some x)).set j (some y))[i]? = some (some x))
    (hv : ∀ q ∈ ps, ∀ a H1, (∀ c o, c ≠ d → H c = some o → H1 c = some o) → Evl.Ev tv (((wipe σ vs).set i (some (.ref a))).set j (some (.int (f q : Nat)))) H1 (.int (g q : Nat))) {Q : VK}
    (q : ∀ D H', H D = none → Ex H H' → ND P w K H' D (pkv ps g) → Q (.ref D) H') : tLockE (tDcN P w K (iItemsN P w te) (gTup K 2 (gCons (gName i) (gCons (gName j) gNil))) (tVar i) tv vs) σ H Q := by
  obtain ⟨es, h1, h2, h3⟩ := hd
  have hel : es.length = ps.length := by
    have := congrArg List.length h2
    rw [List.length_map] at this
    rw [this]
    exact List.length_map _
  have nT := noT_ext h1
  refine ⟨d, NdO P w d es, h1, trivial, fun od => ?_⟩
  refine he _ (fun c o hc ho => by rw [upd_ne hc]; exact ho) _ Ex.rfl' _ fun H1 e1 => ⟨d, od, es, rfl, e1 _ _ upd_same, fun D o hD hND => ?_⟩
  have hDd : D ≠ d := fun z => by rw [z, e1 _ _ upd_same] at hD; cases hD
  have hDH : H D = none := by
    cases hh : H D with
    | none => rfl
    | some oo =>
      have := e1 _ _ (show (upd H d (.frz od (NdO P w d es))) D = some oo by rw [upd_ne hDd]; exact hh)
      rw [this] at hD
      cases hD
  refine lc_any walk_itemsN (fun n H' => H' d = some (.frz od (NdO P w d es)) ∧ (∀ c o, c ≠ d → H c = some o → H' c = some o) ∧ ND P w K H' D (pkv (ps.take n) g)) ⟨by rw [upd_ne (Ne.symm hDd)]; exact e1 _ _ upd_same, fun c o hc ho => by
    have hcD : c ≠ D := fun z => by rw [z, hDH] at ho; cases ho
    rw [upd_ne hcD]
    exact e1 _ _ (by rw [upd_ne hc]; exact ho), hND⟩ (fun n H' _ z => z.1) ?_ ?_
  · rintro n x H2 H3 hn' ⟨hd2, b2, nd2⟩ ⟨T, k, a, v, hke, rfl, hT, rfl⟩
    obtain ⟨qq, hq, rfl, rfl⟩ := pkv_at h2 hke
    have eT : Ex H2 (upd H2 T (.tup [.ref a, .int (f qq : Nat)])) := Ex.nw hT
    refine ⟨T, _, rfl, Evl.st_of upd_same, rfl, _, _, rfl, _, _, rfl, rfl, hw _ _, _, hi _ _, ?_⟩
    have b3 : ∀ c o, c ≠ d → H c = some o → (upd H2 T (.tup [.ref a, .int (f qq : Nat)])) c = some o := fun c o hc ho => eT _ _ (b2 _ _ hc ho)
    refine hv qq (List.mem_of_getElem? hq) a _ b3 _ Ex.rfl' _ fun H5 e5 => ⟨a, pairK qq, pkv (ps.take n) g, rfl, nd2.ex (Ex.tr eT e5), ?_, ?_, fun o5 nd5 => ⟨?_, ?_, ?_⟩⟩
    · have hk := (h3 _ (List.mem_of_getElem? hke))
      refine ⟨hk.1, dp_ex (Ex.tr eT e5) _ _ (dp_but (fun c ys hc => ?_) _ _ (kd_tup _) hk.2)⟩
      rcases hc with hc | hc
      · have hcd : c ≠ d := fun z => by rw [z] at hc; exact nT _ hc
        rcases hc with hc | ⟨ob, hc⟩
        · exact .inl (.inl (b2 _ _ hcd hc))
        · exact .inl (.inr ⟨ob, b2 _ _ hcd hc⟩)
      · exact .inr hc
    · unfold pkv
      rw [List.length_map, List.length_take]
      exact Evl.sz_lt (by omega)
    · rw [upd_ne (Ne.symm hDd)]
      exact e5 _ _ (eT _ _ hd2)
    · intro c o hc ho
      have hcD : c ≠ D := fun z => by rw [z, hDH] at ho; cases ho
      rw [upd_ne hcD]
      exact e5 _ _ (b3 _ _ hc ho)
    · rw [← pkv_take_succ hn hq]
      exact nd5
  · rintro H2 ⟨hd2, b2, nd2⟩
    rw [hel, List.take_length] at nd2
    refine ⟨hd2, q D _ hDH (fun c o hc => ?_) (nd2.but (ExB.upd d H2 _) (noT_frz hd2) hDd)⟩
    by_cases h : c = d
    · subst h
      rw [upd_same, ← h1]
      exact hc
    · rw [upd_ne h]
      exact b2 _ _ h hc
end
/-- self.f = e, the value exact -/
theorem s_fldX {K : PySem.W.Frag} {σ : L2.St} {H : Hp} {tv ta : TE} {D : Ends} {tz : TS} {x C dx : Addr} {fs : List (Str × V)} {v : V} {f : Str} (hv : Evl.Ev tv σ H v) (ho : Evl.Ev ta σ H (.ref x)) (hx : H x = some (.ins C dx fs)) (c : Cls K C) (n : NoAttr K C f) (hf : fs.lookup f = none) (l : fs.length < 1000)
    (k : ∀ H1, Ex H H1 → tz D σ (upd H1 x (.ins C dx (fs ++ [(f, v)])))) : tSeq (sFld K ta tv f) tz D σ H := hv H Ex.rfl' _ fun H1 e1 => ho H1 e1 _ fun H2 e2 => ⟨x, C, dx, fs, rfl, e2 _ _ (e1 _ _ hx), c, n, l, by rw [putF_new hf]; exact k H2 (Ex.tr e1 e2)⟩
theorem s_fldG {K : PySem.W.Frag} {σ : L2.St} {H : Hp} {tv ta : TE} {D : Ends} {tz : TS} {x C dx : Addr} {fs : List (Str × V)} {r : Rel} {f : Str} (hv : GD tv σ H r) (ho : ∀ H1, Ex H H1 → Evl.Ev ta σ H1 (.ref x)) (hx : H x = some (.ins C dx fs)) (c : Cls K C) (n : NoAttr K C f) (hf : fs.lookup f = none) (l : fs.length < 1000)
    (k : ∀ v H1, Ex H H1 → r.on v H1 → tz D σ (upd H1 x (.ins C dx (fs ++ [(f, v)])))) : tSeq (sFld K ta tv f) tz D σ H := hv H Ex.rfl' _ fun v H1 e1 hr => ho H1 e1 H1 Ex.rfl' _ fun H2 e2 => ⟨x, C, dx, fs, rfl, e2 _ _ (e1 _ _ hx), c, n, l, by rw [putF_new hf]; exact k v H2 (Ex.tr e1 e2) (r.up e2 hr)⟩
theorem s_fldG' {K : PySem.W.Frag} {σ : L2.St} {H : Hp} {tv ta : TE} {D : Ends} {x C dx : Addr} {fs : List (Str × V)} {r : Rel} {f : Str} (hv : GD tv σ H r) (ho : ∀ H1, Ex H H1 → Evl.Ev ta σ H1 (.ref x)) (hx : H x = some (.ins C dx fs)) (c : Cls K C) (n : NoAttr K C f) (hf : fs.lookup f = none) (l : fs.length < 1000)
    (k : ∀ v H1, Ex H H1 → r.on v H1 → D.nx σ (upd H1 x (.ins C dx (fs ++ [(f, v)])))) : sFld K ta tv f D σ H := s_fldG (tz := fun D' σ' H' => D.nx σ' H') (D := D) hv ho hx c n hf l k
end Mk
namespace Mk
open PySem PySem.Spec PyProof.Rows L2
abbrev theP : Program := PySem.Challenge.pw_makesorbars_k46_whole_every_table_by_its
section
variable {K : PySem.W.Frag} {mg : Str → Option Value}
/-- the def that closes over __class__, as it lies -/
theorem Txt.evf (T : Txt K mg) : ∃ (oc : Value) (od : Option Addr) (dV kV doc pm : Value) (an : Option Addr) (ct : Value) (osl : Array (Option Value)),
    K.lookup (fE K) = some ⟨oc, od, .func (PySem.W.fnX "__init__" "EveryLaying.__init__" (defArgs s_EveryLaying_init) (defBody s_EveryLaying_init) (defScope s_EveryLaying_init) [(cKey, ccOf K)] dV kV doc pm an (.ref (cdOf K)) ct), osl⟩ ∧ PySem.W.codeIn K (.ref (cdOf K)) "EveryLaying.__init__" = true ∧ dV = .none := by
  have h := T.ex.2.2.2.2.2.2
  unfold supB at h
  obtain ⟨h1, h⟩ := He.ba h
  obtain ⟨h2, h⟩ := He.ba h
  obtain ⟨h3, h⟩ := He.ba h
  have e := T.cl
  unfold fnC at e
  unfold fdB at h3
  cases q : K.lookup (fE K) with
  | none => rw [q] at e; cases e
  | some o =>
    obtain ⟨oc, od, dt, osl⟩ := o
    rw [q] at e h3
    cases dt with
    | func fd =>
      have ec : ccOf K = (match fd.closure with
        | [(_, c)] => c
        | _ => 0) := by
        unfold ccOf
        rw [q] <;> rfl
      obtain ⟨n1, n2, n3, n4, n5, n6, n7, n8, n9, n10, n11, n12, n13, n14, n15⟩ := fd
      have e2 : (some (n1, n2, n3, n4, n5, n6, n7.map (·.1), n15) : FnC) = fnCv := e
      unfold fnCv at e2
      simp only [Option.some.injEq, Prod.mk.injEq] at e2
      obtain ⟨a1, a2, a3, a4, a5, a6, a7, a8⟩ := e2
      obtain ⟨k1, k2⟩ := He.ba (show (PySem.W.codeIn K n13 "EveryLaying.__init__" && (He.dflB K n8 [] && decide (n13 = .ref (cdOf K)))) = true from h3)
      obtain ⟨k3, k4⟩ := He.ba k2
      have k4 := of_decide_eq_true k4
      have k5 : n8 = .none := by
        rcases He.dflB_ok k3 with ⟨_, z⟩ | ⟨z, _⟩
        · exact z
        · exact absurd rfl z
      have k6 : n7 = [(cKey, ccOf K)] := by
        match n7, a7, ec with
        | [(x, c)], a7, ec =>
          have : x = cKey := by simpa using a7
          rw [this, ec]
      subst a1 a2 a3 a4 a5 a6 a8 k6 k4 k5
      exact ⟨oc, od, .none, n9, n10, n11, n12, n14, osl, rfl, k1, rfl⟩
    | _ => cases e
theorem Txt.sup (T : Txt K mg) {P : Program} (hP : P.main = theP.main) : SupK P K mg (cE K) (fE K) (fL K) (ccOf K) (cdOf K) "self" := by
  have h := T.ex.2.2.2.2.2.2
  unfold supB at h
  obtain ⟨h1, h⟩ := He.ba h
  obtain ⟨h2, h⟩ := He.ba h
  obtain ⟨h3, h⟩ := He.ba h
  obtain ⟨h4, h⟩ := He.ba h
  obtain ⟨h5, h⟩ := He.ba h
  obtain ⟨h6, h⟩ := He.ba h
  obtain ⟨h7, h⟩ := He.ba h
  obtain ⟨h8, h⟩ := He.ba h
  obtain ⟨h9, h⟩ := He.ba h
  obtain ⟨h10, h11⟩ := He.ba h
  obtain ⟨oc, od, dV, kV, doc, pm, an, ct, osl, lk, hcd, _⟩ := T.evf
  refine ⟨⟨oc, od, _, osl, _, lk, rfl, rfl⟩, ?_, ?_, Option.isSome_iff_exists.mp h5, of_decide_eq_true h6, T.f_super, ?_, of_decide_eq_true h7, of_decide_eq_true h8, of_decide_eq_true h9, h10⟩
  · unfold codeB at h2
    cases q : K.lookup (cdOf K) with
    | none => rw [q] at h2; cases h2
    | some o =>
      obtain ⟨c, d, dt, sl⟩ := o
      rw [q] at h2
      cases dt with
      | fields vs =>
        cases q2 : vs.toList[2]? with
        | none =>
          have h2 : (match (vs.toList[2]? : Option Value) with
            | some (Value.str file _) => decide (theP.main.file = file)
            | _ => false) = true := h2
          rw [q2] at h2
          cases h2
        | some v =>
          have h2 : (match (vs.toList[2]? : Option Value) with
            | some (Value.str file _) => decide (theP.main.file = file)
            | _ => false) = true := h2
          rw [q2] at h2
          cases v with
          | str file tf =>
            have e : theP.main.file = file := of_decide_eq_true h2
            refine ⟨c, d, vs, sl, file, tf, rfl, by rw [← Array.getElem?_toList]; exact q2, ?_⟩
            rw [hP, e]
            exact beq_self_eq_true file
          | _ => cases h2
      | _ => cases h2
  · unfold cellB at h1
    cases q : K.lookup (ccOf K) with
    | none => rw [q] at h1; cases h1
    | some o =>
      obtain ⟨c, d, dt, sl⟩ := o
      rw [q] at h1
      cases dt with
      | cell v =>
        cases v with
        | none => cases h1
        | some v =>
          cases v with
          | ref D =>
            have e : D = cE K := of_decide_eq_true h1
            subst e
            exact ⟨c, d, sl, rfl⟩
          | _ => cases h1
      | _ => cases h1
  · rw [hP]
    have h11 : (!(theP.main.scope.names.lookup ("super" : Str)).isSome) = true := h11
    simpa using h11
end
section
variable {P : Program} {w : World} {K : PySem.W.Frag} {mg : Str → Option Value} {base : Heap}
theorem fnb_of {m qual : Str} {st : Stmt} {f : Addr} {N ps : List Str} {k : Nat} {sp : Sp} (F : ∃ fd, FunD K m qual (defArgs st) (defBody st) (defScope st) [] [] f fd)
    (hb : ∀ (kV doc pm : Value) (an : Option Addr) (cdv ct : Value) (us : List Value), us.length = ps.length → bindArgs (PySem.W.fnOf m qual (defArgs st) (defBody st) (defScope st) .none kV doc pm an cdv ct) ⟨us, []⟩ = pure (ps.zip us))
    (S : FnScope N ps (defScope st)) (len : ∀ vs H Q E, sp vs H Q E → vs.length = ps.length)
    (hbody : ∀ (cdv : Value) (A : Around) (outer : List Env) (s : Shared) (H : Hp) (vs : List V) (Q : VK) (E : XK), Room k (A.deeper (envOfC qual (defScope st) s.heap.objs.size f cdv)) → sp vs H Q E →
      ∃ t, PSs (cxOf CX0 P w K mg base N qual (defScope st) f cdv A outer s H E).nox (defBody st) t ∧ t { nx := fun _ H' => Q .non H', rt := Q } (start N vs) H) : ∃ fd, FnOk P w K mg base CX0 (k + 1) f fd ps sp ∧ Binds K fd ps [] := by
  obtain ⟨fd, F⟩ := F
  exact ⟨fd, F.ok S len fun cdv A outer s H vs Q E hr hsp => let ⟨t, h, q⟩ := hbody cdv A outer s H vs Q E hr hsp; ⟨t, h.nox, q⟩, F.bindsN hb⟩
end
end Mk
namespace Mk
open PySem PySem.Spec PyProof.Rows L2

/-! ### Laying.init -/
abbrev N_Laying_init : List Str := ["self", "kind", "pieces", "small"]
theorem sc_Laying_init : FnScope N_Laying_init ["self", "kind", "pieces", "small"] (defScope s_Laying_init) := ⟨rfl, rfl, rfl, by decide +kernel, rfl, by decide +kernel, by decide +kernel⟩
def evFs (a1 a2 a3 a4 : V) : List (Str × V) := [("arrivals", a1), ("by_ways", a2), ("by_arrivals", a3), ("many", a4)]
def SpLi (P : Program) (w : World) (K : PySem.W.Frag) : Sp := fun vs H Q E => ∃ x dx a1 a2 a3 a4 kv sv e n w' S many, vs = [.ref x, kv, .int ((many : Nat) : Int), sv] ∧ H x = some (.ins (cE K) dx (evFs a1 a2 a3 a4)) ∧ (kindR K).on kv H ∧ (tabR K e n w' S).on sv H ∧ w' + many * 4 ≤ 90000 ∧
  ∀ Ja H', H Ja = none → ExB x H H' → H' x = some (.ins (cE K) dx (evFs a1 a2 a3 a4 ++ [(("kind" : Str), kv)] ++ [(("small" : Str), sv)] ++ [(("joins" : Str), V.ref Ja)])) → H' Ja = some (.lst (List.replicate (w' + many * 4) (.int 0))) → Q .non H'

theorem ok_Laying_init {P : Program} {w : World} {K : PySem.W.Frag} {mg : Str → Option Value} {base : Heap} (T : Txt K mg) : ∃ fd, FnOk P w K mg base CX0 1 (fL K) fd ["self", "kind", "pieces", "small"] (SpLi P w K) ∧ Binds K fd ["self", "kind", "pieces", "small"] [] := by
  refine fnb_of (st := s_Laying_init) (T.d.def_ 39 rfl) (fun _ _ _ _ _ _ us hl => match us, hl with | [_, _, _, _], _ => rfl) sc_Laying_init (fun vs H Q E hsp => by obtain ⟨_, _, _, _, _, _, _, _, _, _, _, _, _, rfl, _⟩ := hsp; rfl) fun cdv A outer s H vs Q E hr hsp => ?_
  have hu := hr.units
  have hu0 := hu_of hr
  have hu65 := hu65_of hr
  refine ⟨_, (pss_cons (ps_fld (pv 0) (pv 1) rfl)
      (pss_cons (ps_fld (pv 0) (pv 3) rfl)
      (pss_one (ps_fld (pv 0) (pe_op op_rep (pe_lst (pa_cons pe_int pa_nil)) (pe_op op_add (pe_fld (pv 3) rfl) (pe_op op_mul (pv 2) (pe_fld (pv 1) rfl)))) rfl)))), ?_⟩

  obtain ⟨x, dx, a1, a2, a3, a4, kv, sv, e, n, w', S, many, rfl, hx, hk, hs, hz, hQ⟩ := hsp
  obtain ⟨ak, dk, fk, rfl, hk1, hk2⟩ := id hk
  obtain ⟨as_, ds_, fs_, rfl, hs1, hs2⟩ := id hs
  have hkx : ak ≠ x := fun z => by
    rw [z, hx] at hk1
    have e := (HO.ins.inj (Option.some.inj hk1)).2.2
    subst e
    exact absurd (show ("ways" : Str) = "arrivals" from hk2.1) (by decide)
  have hsx : as_ ≠ x := fun z => by
    rw [z, hx] at hs1
    have e := (HO.ins.inj (Option.some.inj hs1)).2.2
    subst e
    exact absurd (show ("exits" : Str) = "arrivals" from hs2.1) (by decide)
  obtain ⟨ue, he1, he2⟩ := hk2.look (f := "exits") (r := rV (.int 4)) rfl
  obtain ⟨uw, hw1, hw2⟩ := hs2.look (f := "ways") (r := rD K (.int w')) rfl
  obtain rfl : ue = V.int 4 := he2
  obtain rfl := dp_int hw2
  refine s_fldX (f := "kind") (v := .ref ak) (Evl.ev_var rfl) (Evl.ev_var rfl) hx T.cl_EveryLaying T.n_EveryLaying_kind rfl (by simp [evFs]) (fun H1 e1 => ?_)
  have b1 : ExB x H (upd H1 x (.ins (cE K) dx (evFs a1 a2 a3 a4 ++ [(("kind" : Str), V.ref ak)]))) := (Ex.but e1).tr (ExB.upd x H1 _)
  refine s_fldX (f := "small") (v := .ref as_) (Evl.ev_var rfl) (Evl.ev_var rfl) upd_same T.cl_EveryLaying T.n_EveryLaying_small rfl (by simp [evFs]) (fun H2 e2 => ?_)
  have b2 : ExB x H (upd H2 x (.ins (cE K) dx (evFs a1 a2 a3 a4 ++ [(("kind" : Str), V.ref ak)] ++ [(("small" : Str), V.ref as_)]))) := (b1.tr (Ex.but e2)).tr (ExB.upd x H2 _)
  have hn : Evl.Ev (tOp (rI0 fun i j => .int (i + j)) (tFld K (tVar 3) "ways") (tOp (rI CMul fun i j => .int (i * j)) (tVar 2) (tFld K (tVar 1) "exits"))) (start N_Laying_init [.ref x, .ref ak, .int ((many : Nat) : Int), .ref as_]) (upd H2 x (.ins (cE K) dx (evFs a1 a2 a3 a4 ++ [(("kind" : Str), V.ref ak)] ++ [(("small" : Str), V.ref as_)]))) (.int ((w' + many * 4 : Nat) : Int)) :=
    Evl.ev_is (Evl.ev_op (ev_ins (i := 3) (x := as_) rfl (b2 _ _ hsx hs1) T.cl_Table T.n_Table_ways hw1) (Evl.ev_op (Evl.ev_var rfl) (ev_ins (i := 1) (x := ak) rfl (b2 _ _ hkx hk1) T.cl_Kind T.n_Kind_exits he1) (Evl.rv_I (.inr (by omega)))) Evl.rv_I0) (by show V.int _ = V.int _; congr 1)
  refine gl_rep (n := w' + many * 4) hn (by omega) _ Ex.rfl' _ (fun Ja vs H3 hJa e3 hJ3 hvs => ?_)
  have hvs : vs = List.replicate (w' + many * 4) (.int 0) := by
    have e : (List.replicate (w' + many * 4) (rV (.int 0))) = (List.replicate (w' + many * 4) (0 : Nat)).map fun n => rV (.int (n : Nat)) := by rw [List.map_replicate]; rfl
    rw [e] at hvs
    rw [alls_val hvs, List.map_replicate]
    rfl
  subst hvs
  have hJx : Ja ≠ x := fun z => by rw [z, upd_same] at hJa; cases hJa
  have hJH : H Ja = none := by
    cases hh : H Ja with
    | none => rfl
    | some o => have := b2 _ _ hJx hh; rw [this] at hJa; cases hJa
  refine Evl.ev_var (i := 0) rfl H3 Ex.rfl' _ fun H4 e4 => ⟨x, cE K, dx, _, rfl, e4 _ _ (e3 _ _ upd_same), T.cl_EveryLaying, T.n_EveryLaying_joins, by simp [evFs], ?_⟩
  rw [putF_new (by rfl)]
  exact hQ Ja _ hJH (((b2.tr (Ex.but e3)).tr (Ex.but e4)).tr (ExB.upd x H4 _)) upd_same (by rw [upd_ne hJx]; exact e4 _ _ hJ3)
end Mk
namespace Mk
open PySem PySem.Spec PyProof.Rows L2
def LpOf (S : Rules) (e w : Nat) : Lp := { S := S, e := e, n := S.length, w := w, A := arrF S, many := piecesF S.length w (arrF S).length, fw := fun s q => (pairsL w).idxOf q * S.length + s, fa := fun q => manyF S.length w + (pairsL (arrF S).length).idxOf q }
def SpEv (P : Program) (w : World) (K : PySem.W.Frag) : Sp := fun vs H Q E => ∃ x dx sv tv S e w' B, vs = [.ref x, sv, tv] ∧ B x = none ∧ Ex B H ∧ H x = some (.ins (cE K) dx []) ∧ (tabR K e S.length w' S).on sv B ∧ Dp K B tv (.list [.int 0]) ∧ Small e S.length w' S ∧ LayOk (LpOf S e w') ∧ piecesF S.length w' (arrF S).length ≤ 1200 ∧
  ∀ Ja H', ExB x H H' → LayOn P w K (LpOf S e w') x Ja H' → Jn K (LpOf S e w') H' Ja (layF S w') → Q .non H'
section
variable {P : Program} {w : World} {K : PySem.W.Frag} {σ : L2.St} {H H' : Hp} {tt : TA} {te tv ta : TE} {r1 r2 : Rel} {D : Ends} {tz : TS} {i j : Nat}
theorem g_par (h : GA tt σ H [r1, r2]) (k : ∀ v1 v2 H1, Ex H H1 → r1.on v1 H1 → r2.on v2 H1 → tz D ((σ.set i (some v1)).set j (some v2)) H1) : tSeq (tPar i j tt) tz D σ H := h H Ex.rfl' _ fun vs H1 e1 ha => by
  obtain ⟨v1, v2, rfl, h1, h2⟩ := alls2 ha
  exact ⟨v1, v2, rfl, k v1 v2 H1 e1 h1 h2⟩
theorem s_fldL {x C dx : Addr} {fs : List (Str × V)} {xs : List V} {f : Str} (hv : Evl.EvL tv σ H xs) (ho : ∀ H1, Ex H H1 → Evl.Ev ta σ H1 (.ref x)) (hx : H x = some (.ins C dx fs)) (c : Cls K C) (n : NoAttr K C f) (hf : fs.lookup f = none) (l : fs.length < 1000)
    (k : ∀ p H1, H p = none → Ex H H1 → H1 p = some (.lst xs) → tz D σ (upd H1 x (.ins C dx (fs ++ [(f, .ref p)])))) : tSeq (sFld K ta tv f) tz D σ H := hv H Ex.rfl' _ fun p H1 hp e1 h1 => ho H1 e1 H1 Ex.rfl' _ fun H2 e2 => ⟨x, C, dx, fs, rfl, e2 _ _ (e1 _ _ hx), c, n, l, by rw [putF_new hf]; exact k p H2 hp (Ex.tr e1 e2) (e2 _ _ h1)⟩
/-- self.f = e, e read by its promise -/
def FldK (K : PySem.W.Frag) (D : Ends) (tz : TS) (σ : L2.St) (ta : TE) (f : Str) : VK := fun y H1 => ta σ H1 fun x H2 => ∃ a C dx fs, x = .ref a ∧ H2 a = some (HO.ins C dx fs) ∧ Cls K C ∧ NoAttr K C f ∧ fs.length < 1000 ∧ tz D σ (L2.upd H2 a (HO.ins C dx (putF f y fs)))
theorem s_fldK {f : Str} (h : tv σ H (FldK K D tz σ ta f)) : tSeq (sFld K ta tv f) tz D σ H := h
theorem fldK {x C dx : Addr} {fs : List (Str × V)} {f : Str} {v : V} (ho : Evl.Ev ta σ H (.ref x)) (hx : H x = some (.ins C dx fs)) (c : Cls K C) (n : NoAttr K C f) (hf : fs.lookup f = none) (l : fs.length < 1000) (k : ∀ H1, Ex H H1 → tz D σ (upd H1 x (.ins C dx (fs ++ [(f, v)])))) : FldK K D tz σ ta f v H :=
  ho H Ex.rfl' _ fun H1 e1 => ⟨x, C, dx, fs, rfl, e1 _ _ hx, c, n, l, by rw [putF_new hf]; exact k H1 e1⟩
theorem ND.butX {d d0 C dx : Addr} {fs : List (Str × V)} {kvs : List (NestedKey × V)} (h : ND P w K H d kvs) (hx : H d0 = Option.some (HO.ins C dx fs)) (e : ExB d0 H H') : ND P w K H' d kvs := h.but e (noT_ins hx) fun z => by
  obtain ⟨es, h1, _⟩ := h
  rw [z, hx] at h1
  cases h1
theorem alls_pkX {d0 C dx : Addr} {fs : List (Str × V)} {ps : List (Nat × Nat)} {α : Type} {f : α → Nat × Nat → Nat} (hx : H d0 = some (.ins C dx fs)) (e : ExB d0 H H') : ∀ {l : List α} {vs : List V}, Alls (l.map fun s => rPk P w K ps (f s)) vs H → Alls (l.map fun s => rPk P w K ps (f s)) vs H'
  | [], [], _ => trivial
  | s :: l, v :: vs, h => ⟨let ⟨d, h1, h2⟩ := h.1; ⟨d, h1, h2.butX hx e⟩, alls_pkX hx e h.2⟩
  | [], _ :: _, h => h.elim
  | _ :: _, [], h => h.elim
end
end Mk
namespace Mk
open PySem PySem.Spec PyProof.Rows L2

/-! ### EveryLaying.init -/
abbrev N_EveryLaying_init : List Str := ["self", "small", "starts", "many", "pairs", "later", "standing", "pair", "number"]
theorem sc_EveryLaying_init : KScope N_EveryLaying_init ["self", "small", "starts"] (defScope s_EveryLaying_init) := ⟨rfl, rfl, rfl, by decide +kernel, rfl, by decide +kernel, by decide +kernel, by decide +kernel⟩
theorem ok_EveryLaying_init {P : Program} {w : World} {K : PySem.W.Frag} {mg : Str → Option Value} {base : Heap} (T : Txt K mg) (hP : P.main = theP.main) : CalI P w K mg base "EveryLaying" (He.ga K "EveryLaying") 6 ["self", "small", "starts"] (SpEv P w K) := by
  obtain ⟨oc, od, dV, kV, doc, pm, an, ct, osl, lk, hcd, hdv⟩ := T.evf
  subst hdv
  obtain ⟨cl, cd, csl, lc⟩ := (T.sup hP).cell
  obtain ⟨fd2, F2, hb2⟩ := ok_Laying_init (P := P) (w := w) (base := base) T
  refine ⟨fE K, _, T.g_EveryLaying, T.mk_EveryLaying, .all (fun us hl => match us, hl with | [_, _, _], _ => rfl), fnK_of (k := 5) lk hcd sc_EveryLaying_init lc (fun vs H Q E hsp => by obtain ⟨_, _, _, _, _, _, _, _, rfl, _⟩ := hsp; rfl) fun A outer s H vs Q E hr hsp => ?_⟩
  have hu := hr.units
  have hu0 := hu_of hr
  have hu65 := hu65_of hr
  refine ⟨_, (pssa_cons (psa_of (PS.nox' (ps_fld (pv 0) (pe_cal (ok_arrivals_of (P := P) (w := w) (base := base) T) (hr.mono (by decide)) rfl (pa_cons (pv 1) (pa_cons (pv 2) pa_nil))) rfl)))
      (pssa_cons (psa_of (PS.nox' (ps_set (i := 3) sc_EveryLaying_init.nd rfl (Or.inr rfl) (pe_op op_fdiv (pe_op op_mul (pe_op op_mul (pe_fld (pv 1) rfl) (pe_fld (pv 1) rfl)) (pe_op op_sub (pe_fld (pv 1) rfl) pe_int)) pe_int))))
      (pssa_cons (psa_of (PS.nox' (ps_par (i := 4) (j := 5) (by rfl) sc_EveryLaying_init.nd rfl rfl (by decide) rfl rfl (pa_cons (pe_cal (ok_pairs_of (P := P) (w := w) (base := base) T) (hr.mono (by decide)) rfl (pa_cons (pe_fld (pv 1) rfl) pa_nil)) (pa_cons (pe_cal (ok_pairs_of (P := P) (w := w) (base := base) T) (hr.mono (by decide)) rfl (pa_cons (pe_callB (id := "len") call_len_seq (by rfl) T.f_len PySem.boot_len (pa_cons (pe_fld (pv 0) rfl) pa_nil)) pa_nil)) pa_nil)) (by rfl))))
      (pssa_cons (psa_of (PS.nox' (ps_fld (pv 0) (pe_lst pa_nil) rfl)))
      (pssa_cons (psa_of (PS.nox' (ps_for PassesOwn.never rfl (pi_range1 rfl T.f_range (pa_cons (pe_fld (pv 1) rfl) pa_nil)) (pg_name (i := 6) sc_EveryLaying_init.nd rfl (Or.inr rfl))
      (pss_one (ps_expr (pe_bm PySem.F.plainAttrs_list PySem.F.slot_list_append PySem.F.type_list_append mt_append (pe_fld (pv 0) rfl) (pa_cons (pe_lock (pe_dcN hu rfl sc_EveryLaying_init.nd (pi_itemsN (pv 4)) (blkOk_by (own := [("pair", 7), ("number", 8)]) rfl) (fun _ _ _ _ _ => (show PG _ _ (gTup K 2 _) from (pg_tup rfl (pgs_cons (pg_name (i := 7) sc_EveryLaying_init.nd rfl (Or.inl rfl)) (pgs_cons (pg_name (i := 8) sc_EveryLaying_init.nd rfl (Or.inl rfl)) pgs_nil))))) (fun _ _ _ _ _ => (pv 7)) (fun _ _ _ _ _ => (pe_op op_add (pe_op op_mul (pv 8) (show PE _ _ (tFld K _ _) from (pe_fld (pv 1) rfl))) (pv 6))))) pa_nil)))))))
      (pssa_cons (psa_of (PS.nox' (ps_fld (pv 0) (pe_lock (pe_dcN hu rfl sc_EveryLaying_init.nd (pi_itemsN (pv 5)) (blkOk_by (own := [("pair", 7), ("number", 8)]) rfl) (fun _ _ _ _ _ => (show PG _ _ (gTup K 2 _) from (pg_tup rfl (pgs_cons (pg_name (i := 7) sc_EveryLaying_init.nd rfl (Or.inl rfl)) (pgs_cons (pg_name (i := 8) sc_EveryLaying_init.nd rfl (Or.inl rfl)) pgs_nil))))) (fun _ _ _ _ _ => (pv 7)) (fun _ _ _ _ _ => (pe_op op_add (pv 3) (pv 8))))) rfl)))
      (pssa_cons (psa_of (PS.nox' (ps_fld (pv 0) (pe_op op_add (pv 3) (pe_callB (id := "len") call_lenN (by rfl) T.f_len (by decide +kernel) (pa_cons (pv 5) pa_nil))) rfl)))
      (pssa_cons (ps_super (T.sup hP) F2 (hr.mono (by decide)) hb2 rfl rfl rfl rfl rfl rfl rfl (pa_cons (pe_calI (ok_Kind_init (P := P) (w := w) (base := base) T) (hr.mono (by decide)) rfl (pa_cons (pe_lst (pa_cons pe_str (pa_cons pe_str (pa_cons pe_str pa_nil)))) pa_nil)) (pa_cons (pe_fld (pv 0) rfl) (pa_cons (pv 1) pa_nil))))
      (pssa_of (PSs.nox (pss_one (ps_expr (pe_calM0 (ok_EveryLaying_lay (P := P) (w := w) (base := base) T) (hr.mono (by decide)) (pv 0)))))))))))))), ?_⟩
  obtain ⟨x, dx, sv, tv, S, e, w', B, rfl, hB, eB, hx, hs, ht, sm, ok, hpc, hQ⟩ := hsp
  have hSl := sm.n2
  have hw2 := sm.w2
  have cE := T.cl_EveryLaying
  obtain ⟨m, hm⟩ : ∃ m, m = (arrF S).length := ⟨_, rfl⟩
  have hm400 : m ≤ 400 := by rw [hm]; exact ok.a2
  have smallOn : ∀ H', ExB x H H' → (tabR K e S.length w' S).on sv H' := fun H' b => (tabR K e S.length w' S).up (ExB.ex eB b hB) hs
  -- the arrivals
  refine s_fldG (r := rLm K ((arrF S).map dArr)) (gd_call (ga_cons (gd_v (i := 1) rfl (smallOn _ (ExB.refl _ _))) (ga_cons (gd_v (i := 2) rfl (dp_ex eB _ _ ht)) ga_nil)) (.mk S e S.length w' sm)) (fun H1 e1 => Evl.ev_var rfl) hx cE T.n_EveryLaying_arrivals rfl (by simp) (fun av H1 e1 hav => ?_)
  obtain ⟨aA, xs, rfl, hA1, hA2⟩ := hav
  have hAx : aA ≠ x := fun z => by have := e1 _ _ hx; rw [← z, hA1] at this; cases this
  have bX1 := ExB.upd x H1 (.ins (Mk.cE K) dx ([] ++ [(("arrivals" : Str), V.ref aA)]))
  have b1 : ExB x H (upd H1 x (.ins (Mk.cE K) dx ([] ++ [(("arrivals" : Str), V.ref aA)]))) := (Ex.but e1).tr bX1
  obtain ⟨H2, hH2⟩ : ∃ H2, H2 = upd H1 x (.ins (Mk.cE K) dx ([] ++ [(("arrivals" : Str), V.ref aA)])) := ⟨_, rfl⟩
  rw [← hH2] at bX1 b1 ⊢
  have hx2 : H2 x = some (.ins (Mk.cE K) dx ([] ++ [(("arrivals" : Str), V.ref aA)])) := by rw [hH2, upd_same]
  have hA12 : H2 aA = some (.lst xs) := bX1 _ _ hAx hA1
  have hA22 : DpAll K H2 xs ((arrF S).map dArr) := dpa_butI (e1 _ _ hx) bX1 _ _ hA2
  clear hH2 bX1 hA1 hA2
  -- many
  refine Evl.q_asg (v := .int (manyF S.length w' : Nat)) (Evl.ev_is (Evl.ev_op (Evl.ev_op (Evl.ev_op (gd_int (K := K) (gd_fld (gd_v (i := 1) rfl (smallOn _ b1)) T.cl_Table T.n_Table_standings)) (gd_int (K := K) (gd_fld (gd_v (i := 1) rfl (smallOn _ b1)) T.cl_Table T.n_Table_ways)) (Evl.rv_I (.inl (by omega)))) (Evl.ev_op (gd_int (K := K) (gd_fld (gd_v (i := 1) rfl (smallOn _ b1)) T.cl_Table T.n_Table_ways)) Evl.ev_c Evl.rv_I0) (Evl.rv_I (.inr (by omega)))) Evl.ev_c (Evl.rv_I ⟨by omega, by omega⟩)) ?_) (fun H3 e3 => ?_)
  · show V.int _ = V.int _
    congr 1
    unfold manyF
    obtain ⟨w'', rfl⟩ : ∃ w'', w' = w'' + 1 := ⟨w' - 1, by have := sm.w1; omega⟩
    simp only [Nat.add_sub_cancel]
    push_cast
    rw [show (w'' : Int) + 1 - 1 = (w'' : Int) by omega]
  have b3 := b1.tr (Ex.but e3)
  -- the pairs
  refine g_par (r1 := rPk P w K (pairsL w') fun q => (pairsL w').idxOf q) (r2 := rPk P w K (pairsL m) fun q => (pairsL m).idxOf q) (ga_cons (gd_call (rel := rel_pairs_of P w K) (ga_cons (gd_fld (r := rD K (.int w')) (gd_v (i := 1) rfl (smallOn _ b3)) T.cl_Table T.n_Table_ways) ga_nil) (.mk w' (by omega))) (ga_cons (gd_call (rel := rel_pairs_of P w K) (ga_int (i := (m : Nat)) (K := K) (Evl.ev_is (ev_lenS (K := K) (gd_ev (ev_ins (i := 0) (x := x) rfl (e3 _ _ hx2) cE T.n_EveryLaying_arrivals rfl) (r := rD K (.list ((arrF S).map dArr))) (.lst (Evl.sq_of (e3 _ _ hA12)) (dpa_ex e3 _ _ hA22))) (.inl rfl)) (by rw [List.length_map, hm])) ga_nil) (.mk m hm400)) ga_nil)) (fun v1 v2 H4 e4 hp1 hp2 => ?_)
  obtain ⟨d1, rfl, hd1⟩ := hp1
  obtain ⟨d2, rfl, hd2⟩ := hp2
  have b4 := b3.tr (Ex.but e4)
  have e24 := Ex.tr e3 e4
  -- by_ways
  refine s_fldL (xs := []) (Evl.el_lst (vs := []) Evl.ea_nil (by decide)) (fun H5 e5 => Evl.ev_var rfl) (e24 _ _ hx2) cE T.n_EveryLaying_by_ways rfl (by simp) (fun aB H5 haB e5 hB5 => ?_)
  have hBx : aB ≠ x := fun z => by have := e24 _ _ hx2; rw [← z, haB] at this; cases this
  have hBA : aB ≠ aA := fun z => by have := e24 _ _ hA12; rw [← z, haB] at this; cases this
  have hBH : H aB = none := by
    cases hh : H aB with
    | none => rfl
    | some o => have := b4 _ _ hBx hh; rw [this] at haB; cases haB
  have hBd1 : d1 ≠ aB := fun z => by obtain ⟨oo, ho⟩ := hd1.some; rw [z, haB] at ho; cases ho
  have hBd2 : d2 ≠ aB := fun z => by obtain ⟨oo, ho⟩ := hd2.some; rw [z, haB] at ho; cases ho
  have hx5 := e5 _ _ (e24 _ _ hx2)
  have bX5 := ExB.upd x H5 (.ins (Mk.cE K) dx ([] ++ [(("arrivals" : Str), V.ref aA)] ++ [(("by_ways" : Str), V.ref aB)]))
  obtain ⟨H6, hH6⟩ : ∃ H6, H6 = upd H5 x (.ins (Mk.cE K) dx ([] ++ [(("arrivals" : Str), V.ref aA)] ++ [(("by_ways" : Str), V.ref aB)])) := ⟨_, rfl⟩
  rw [← hH6] at bX5 ⊢
  have b6 : ExB x H H6 := (b4.tr (Ex.but e5)).tr bX5
  have hx6 : H6 x = some (.ins (Mk.cE K) dx ([] ++ [(("arrivals" : Str), V.ref aA)] ++ [(("by_ways" : Str), V.ref aB)])) := by rw [hH6, upd_same]
  have hA16 : H6 aA = some (.lst xs) := bX5 _ _ hAx (e5 _ _ (e24 _ _ hA12))
  have hA26 : DpAll K H6 xs ((arrF S).map dArr) := dpa_butI hx5 bX5 _ _ (dpa_ex (Ex.tr e24 e5) _ _ hA22)
  have hd16 := (hd1.ex e5).butX hx5 bX5
  have hd26 := (hd2.ex e5).butX hx5 bX5
  have hB6 : H6 aB = some (.lst []) := bX5 _ _ hBx hB5
  clear hH6 bX5
  -- the pieces of the ways
  refine qr_forq (n := S.length) (gd_int (K := K) (gd_fld (gd_v (i := 1) rfl (smallOn _ b6)) T.cl_Table T.n_Table_standings)) (by omega) (fun i σ' H' => ∃ x6 ds, σ' = [some (.ref x), some sv, some tv, some (.int (manyF S.length w' : Nat)), some (.ref d1), some (.ref d2), x6, none, none] ∧ ExB x H H' ∧ H' x = some (.ins (Mk.cE K) dx ([] ++ [(("arrivals" : Str), V.ref aA)] ++ [(("by_ways" : Str), V.ref aB)])) ∧ H' aA = some (.lst xs) ∧ DpAll K H' xs ((arrF S).map dArr) ∧ ND P w K H' d1 (pkv (pairsL w') fun q => (pairsL w').idxOf q) ∧ ND P w K H' d2 (pkv (pairsL m) fun q => (pairsL m).idxOf q) ∧ H' aB = some (.lst ds) ∧ Alls ((List.range i).map fun s => rPk P w K (pairsL w') fun q => (pairsL w').idxOf q * S.length + s) ds H') (fun H7 e7 => ⟨_, [], rfl, b6.tr (Ex.but e7), e7 _ _ hx6, e7 _ _ hA16, dpa_ex e7 _ _ hA26, hd16.ex e7, hd26.ex e7, e7 _ _ hB6, trivial⟩) ?_ ?_
  · rintro i σ' H7 hi ⟨x6, ds, rfl, b7, hx7, hA17, hA27, hd17, hd27, hB7, hds7⟩
    refine s_appS hB7 (ev_ins (i := 0) (x := x) rfl hx7 cE T.n_EveryLaying_by_ways rfl) (fun H8 e8 => ?_)
    have hpw : (pairsL w').length < 90000 := by
      rw [pairsL_len]
      have : w' * (w' - 1) ≤ 6 * 5 := Nat.mul_le_mul hw2 (by omega)
      omega
    have small8 := smallOn _ (b7.tr (Ex.but e8))
    obtain ⟨as_, das, fss, hsv, hs1, hs2⟩ := small8
    obtain ⟨un, hun1, hun2⟩ := hs2.look (f := "standings") (r := rD K (.int S.length)) rfl
    obtain rfl := dp_int hun2
    have hasd : as_ ≠ d1 := fun z => by obtain ⟨oo, h1, _⟩ := hd17.ex e8; rw [← z, hs1] at h1; cases h1
    refine gd_dcN (g := fun q => (pairsL w').idxOf q * S.length + i) (hd17.ex e8) (nd_pairsL w') hpw (fun H9 b9 => Evl.ev_var rfl) (fun _ _ => rfl) (fun _ _ => rfl) (fun q hq a H9 b9 => ?_) (fun Dd H9 hDd e9 hND => ?_)
    · refine Evl.ev_is (Evl.ev_op (Evl.ev_op (Evl.ev_var rfl) (ev_ins (i := 1) (x := as_) (by rw [← hsv]; rfl) (b9 _ _ hasd hs1) T.cl_Table T.n_Table_standings hun1) (Evl.rv_I (.inr (by omega)))) (Evl.ev_var rfl) Evl.rv_I0) ?_
      show V.int _ = V.int _
      congr 1
    · have hB9 := e9 _ _ (e8 _ _ hB7)
      have hu9 := ExB.upd aB H9 (.lst (ds ++ [.ref Dd]))
      have hn9 := noT_lst hB9
      have hdl : ds.length = i := by have := hds7.len; rwa [List.length_map, List.length_range] at this
      have e79 := Ex.tr e8 e9
      refine ⟨aB, ds, .ref Dd, rfl, rfl, hB9, Evl.sz_lt (by omega), _, ds ++ [.ref Dd], rfl, (b7.tr (Ex.but e79)).mut hBH, hu9 _ _ (Ne.symm hBx) (e79 _ _ hx7), hu9 _ _ (Ne.symm hBA) (e79 _ _ hA17), dpa_but (fun _ _ k => sqt_but hu9 hn9 k) _ _ (tup_all tup_Arr _) (dpa_ex e79 _ _ hA27), (hd17.ex e79).but hu9 hn9 hBd1, (hd27.ex e79).but hu9 hn9 hBd2, upd_same, ?_⟩
      rw [List.range_succ, List.map_append]
      have hDB : Dd ≠ aB := fun z => by have := e8 _ _ hB7; rw [← z, hDd] at this; cases this
      exact Alls.snoc (Alls.but hB9 hu9 (fun r hr => by obtain ⟨s, _, rfl⟩ := List.mem_map.mp hr; exact but_pk) (hds7.up e79)) (r := rPk P w K (pairsL w') fun q => (pairsL w').idxOf q * S.length + i) ⟨Dd, rfl, hND.but hu9 hn9 hDB⟩
  rintro σ' H7 ⟨x6, ds, rfl, b7, hx7, hA17, hA27, hd17, hd27, hB7, hds7⟩
  -- by_arrivals
  have hpm : (pairsL m).length < 90000 := by
    rw [pairsL_len]
    have : m * (m - 1) ≤ 400 * 399 := Nat.mul_le_mul hm400 (by omega)
    omega
  refine s_fldK (gd_dcN (g := fun q => manyF S.length w' + (pairsL m).idxOf q) hd27 (nd_pairsL m) hpm (fun H8 b8 => Evl.ev_var rfl) (fun _ _ => rfl) (fun _ _ => rfl) (fun q hq a H8 b8 => ?_) (fun aD H8 hDn e8 hD8 => ?_))
  · refine Evl.ev_is (Evl.ev_op (Evl.ev_var rfl) (Evl.ev_var rfl) Evl.rv_I0) ?_
    show V.int _ = V.int _
    congr 1
  refine fldK (Evl.ev_var rfl) (e8 _ _ hx7) cE T.n_EveryLaying_by_arrivals rfl (by simp) (fun H9 e9 => ?_)
  have e79 := Ex.tr e8 e9
  have hx9 := e79 _ _ hx7
  have bX9 := ExB.upd x H9 (.ins (Mk.cE K) dx ([] ++ [(("arrivals" : Str), V.ref aA)] ++ [(("by_ways" : Str), V.ref aB)] ++ [(("by_arrivals" : Str), V.ref aD)]))
  obtain ⟨H10, hH10⟩ : ∃ H10, H10 = upd H9 x (.ins (Mk.cE K) dx ([] ++ [(("arrivals" : Str), V.ref aA)] ++ [(("by_ways" : Str), V.ref aB)] ++ [(("by_arrivals" : Str), V.ref aD)])) := ⟨_, rfl⟩
  have b10 : ExB x H H10 := by rw [hH10]; exact (b7.tr (Ex.but e79)).tr bX9
  have hx10 : H10 x = some (.ins (Mk.cE K) dx ([] ++ [(("arrivals" : Str), V.ref aA)] ++ [(("by_ways" : Str), V.ref aB)] ++ [(("by_arrivals" : Str), V.ref aD)])) := by rw [hH10, upd_same]
  rw [← hH10] at bX9
  have hA110 := bX9 _ _ hAx (e79 _ _ hA17)
  have hA210 := dpa_butI hx9 bX9 _ _ (dpa_ex e79 _ _ hA27)
  have hd210 := (hd27.ex e79).butX hx9 bX9
  have hB10 := bX9 _ _ hBx (e79 _ _ hB7)
  have hds10 := alls_pkX hx9 bX9 (hds7.up e79)
  have hD10 := (hD8.ex e9).butX hx9 bX9
  show tSeq _ _ _ _ (upd H9 x (.ins (Mk.cE K) dx ([] ++ [(("arrivals" : Str), V.ref aA)] ++ [(("by_ways" : Str), V.ref aB)] ++ [(("by_arrivals" : Str), V.ref aD)])))
  rw [← hH10]
  clear hH10 bX9
  -- self.many
  have hmany : manyF S.length w' + (pairsL m).length = piecesF S.length w' m := by rw [pairsL_len]; rfl
  refine s_fldX (v := .int (piecesF S.length w' m : Nat)) (Evl.ev_is (Evl.ev_op (Evl.ev_var rfl) (ev_lenNd (Evl.ev_var rfl) hd210) Evl.rv_I0) (by
    rw [show (pkv (pairsL m) fun q => (pairsL m).idxOf q).length = (pairsL m).length from List.length_map _, ← hmany]
    show V.int _ = V.int _
    congr 1)) (Evl.ev_var rfl) hx10 cE T.n_EveryLaying_many rfl (by simp) (fun H11 e11 => ?_)
  have hx11 := e11 _ _ hx10
  have bX11 := ExB.upd x H11 (.ins (Mk.cE K) dx (evFs (.ref aA) (.ref aB) (.ref aD) (.int (piecesF S.length w' m : Nat))))
  obtain ⟨H12, hH12⟩ : ∃ H12, H12 = upd H11 x (.ins (Mk.cE K) dx (evFs (.ref aA) (.ref aB) (.ref aD) (.int (piecesF S.length w' m : Nat)))) := ⟨_, rfl⟩
  show tSeq _ _ _ _ (upd H11 x (.ins (Mk.cE K) dx (evFs (.ref aA) (.ref aB) (.ref aD) (.int (piecesF S.length w' m : Nat)))))
  rw [← hH12] at bX11 ⊢
  have b12 : ExB x H H12 := (b10.tr (Ex.but e11)).tr bX11
  have hx12 : H12 x = some (.ins (Mk.cE K) dx (evFs (.ref aA) (.ref aB) (.ref aD) (.int (piecesF S.length w' m : Nat)))) := by rw [hH12, upd_same]
  have hA112 := bX11 _ _ hAx (e11 _ _ hA110)
  have hA212 := dpa_butI hx11 bX11 _ _ (dpa_ex e11 _ _ hA210)
  have hB12 := bX11 _ _ hBx (e11 _ _ hB10)
  have hds12 := alls_pkX hx11 bX11 (hds10.up e11)
  have hD12 := (hD10.ex e11).butX hx11 bX11
  clear hH12 bX11
  -- super
  refine ⟨x, dx, _, rfl, hx12, cons_GD (gd_make (F := kindF K) (ga_cons (gd_lst (ds := ways3.map .str) (ga_cons (gd_ev (v := .str "look") Evl.ev_c (.str _)) (ga_cons (gd_ev (v := .str "set") Evl.ev_c (.str _)) (ga_cons (gd_ev (v := .str "reset") Evl.ev_c (.str _)) ga_nil))) (by decide)) ga_nil) .mk) (fun kv H13 e13 hkv => cons_Ev (ev_ins (i := 0) (x := x) rfl (e13 _ _ hx12) cE T.n_EveryLaying_many rfl) (fun H14 e14 => cons_Ev (v := sv) (Evl.ev_var rfl) (fun H15 e15 => ?_)))⟩
  have e12 := Ex.tr e13 (Ex.tr e14 e15)
  have hx15 := e12 _ _ hx12
  have b15 := b12.tr (Ex.but e12)
  have hkv15 := (kindR K).up (Ex.tr e14 e15) hkv
  have hL : (LpOf S e w').many = piecesF S.length w' m := by rw [hm]; rfl
  refine ⟨x, dx, .ref aA, .ref aB, .ref aD, .int (piecesF S.length w' m : Nat), kv, sv, e, S.length, w', S, piecesF S.length w' m, rfl, hx15, hkv15, smallOn _ b15, by rw [hm]; omega, fun Ja H16 hJa b16 hx16 hJ16 => ?_⟩
  -- lay
  have hJA : aA ≠ Ja := fun z => by have := e12 _ _ hA112; rw [z, hJa] at this; cases this
  have hJB : aB ≠ Ja := fun z => by have := e12 _ _ hB12; rw [z, hJa] at this; cases this
  have kv16 : (kindR K).on kv H16 := by
    obtain ⟨ak, dk, fk, rfl, hk1, hk2⟩ := hkv15
    have hkx : ak ≠ x := fun z => by
      rw [z, hx15] at hk1
      have e := (HO.ins.inj (Option.some.inj hk1)).2.2
      subst e
      exact absurd (show ("ways" : Str) = "arrivals" from hk2.1) (by decide)
    refine ⟨ak, dk, fk, rfl, b16 _ _ hkx hk1, Flds.butI hx15 b16 (fun r hr => ?_) hk2⟩
    simp only [kindF, List.mem_cons, List.not_mem_nil, or_false] at hr
    rcases hr with rfl | rfl
    · exact butI_D
    · exact butI_V
  have I16 : LayOn P w K (LpOf S e w') x Ja H16 := ⟨dx, aA, aB, aD, xs, ds, kv, sv, {
    ins := by
      show H16 x = some (.ins (Mk.cE K) dx [("arrivals", .ref aA), ("by_ways", .ref aB), ("by_arrivals", .ref aD), ("many", .int ((LpOf S e w').many : Nat)), ("kind", kv), ("small", sv), ("joins", .ref Ja)])
      rw [hL]
      exact hx16
    arr := Evl.sq_of (b16 _ _ hAx (e12 _ _ hA112))
    arrd := dpa_butI hx15 b16 _ _ (dpa_ex e12 _ _ hA212)
    arrne := hJA
    byw := Evl.sq_of (b16 _ _ hBx (e12 _ _ hB12))
    bywne := hJB
    bywd := alls_pkX hx15 b16 (hds12.up e12)
    bya := by
      have := (hD12.ex e12).butX hx15 b16
      rw [hm] at this
      exact this
    kind := kv16
    small := smallOn _ (b15.tr b16) }⟩
  have hrep : DpAll K H16 (List.replicate (w' + piecesF S.length w' m * 4) (.int 0)) ((List.replicate (w' + piecesF S.length w' m * 4) (Tg.ex 0)).map dTg) := by
    rw [List.map_replicate]
    exact dpa_rep (.int 0) _
  have J16 : Jn K (LpOf S e w') H16 Ja (List.replicate (w' + piecesF S.length w' m * 4) (.ex 0)) := ⟨by rw [List.length_replicate, hL]; rfl, _, hJ16, hrep⟩
  have I16' := I16
  obtain ⟨dx', aA', aB', aD', xs', bs', kv', sv', Ic16⟩ := I16'
  refine meth_sp (vs := []) (Evl.ev_var rfl) Ic16.ins rfl Evl.ea_nil (fun H17 e17 => ⟨LpOf S e w', x, Ja, _, rfl, I16.ex e17, J16.ex e17, ok, fun H18 b18 J18 => ?_⟩)
  have hJa17 : H17 Ja = some (.lst (List.replicate (w' + piecesF S.length w' m * 4) (.int 0))) := e17 _ _ hJ16
  have bfin : ExB x H H18 := fun c o hc hco => by
    have h17 := e17 _ _ (b16 _ _ hc (e12 _ _ (b12 _ _ hc hco)))
    exact b18 _ _ (fun z => by have := b15 _ _ hc hco; rw [z, hJa] at this; cases this) h17
  refine hQ Ja H18 bfin ((I16.ex e17).butJ (J16.ex e17) b18) ?_
  have : layF S w' = lay (LpOf S e w').w (LpOf S e w').pc (LpOf S e w').pa (LpOf S e w').A (LpOf S e w').S (List.replicate (w' + piecesF S.length w' m * 4) (.ex 0)) := by rw [hm]; rfl
  rw [this]
  exact J18
end Mk
namespace Mk
open PySem PySem.Spec PyProof.Rows L2
/-- what the laying of a table asks -/
structure Good (S : Rules) (e w : Nat) : Prop where
  sm : Small e S.length w S
  lay : LayOk (LpOf S e w)
  pc : piecesF S.length w (arrF S).length ≤ 1200
  z : 0 ∈ (arrF S).map (·.1)
  web : WebOk (LpOf S e w).begs w e (layF S w)
theorem q_make {C : Addr} {sp : Sp} {tt : TA} {i : Nat} {σ : L2.St} {H : Hp} {D : Ends} {tz : TS} (h : tt σ H fun vs H1 => ∀ x dx, H1 x = none → H1 dx = none → dx ≠ x → sp (.ref x :: (vs ++ [])) (upd (upd H1 dx (.own x)) x (.ins C dx [])) (fun v H2 => v = .non ∧ tz D (σ.set i (some (.ref x))) H2) E0) :
    tSeq (tAsg (tMake C sp [] E0 tt) (gName i)) tz D σ H := h
theorem but_web {K : PySem.W.Frag} {bs : List Nat} {w e : Nat} {J : List Tg} : (webR K bs w e J).But := but_I fun r hr => by
  simp only [webF, List.mem_cons, List.not_mem_nil, or_false] at hr
  rcases hr with rfl | rfl | rfl | rfl | rfl | rfl
  · exact but_kind
  · exact but_D (tup_all (fun _ => rfl) _)
  · exact but_D rfl
  · exact but_D rfl
  · exact but_D rfl
  · exact but_D (tup_all tup_Tg _)
mutual
theorem eqv_self : ∀ d : PyData, d.canLay0 = true → PyData.eqv d d = true
  | .none, _ => by simp [PyData.eqv]
  | .bool b, _ => by simp [PyData.eqv]
  | .int i, _ => by simp [PyData.eqv]
  | .str x, _ => by simp [PyData.eqv]
  | .list ds, h => by
    simp only [PyData.eqv]
    exact eqvAll_self ds (by simpa [PyData.canLay0] using h)
  | .tuple ds, h => by
    simp only [PyData.eqv]
    exact eqvAll_self ds (by simpa [PyData.canLay0] using h)
  | .dict _, h => by simp [PyData.canLay0] at h
theorem eqvAll_self : ∀ ds : List PyData, PyData.canLayAll0 ds = true → PyData.eqvAll ds ds = true
  | [], _ => by simp [PyData.eqvAll]
  | d :: ds, h => by
    simp only [PyData.canLayAll0, Bool.and_eq_true] at h
    simp only [PyData.eqvAll, Bool.and_eq_true]
    exact ⟨eqv_self d h.1, eqvAll_self ds h.2⟩
end
theorem lay_Tg : ∀ t : Tg, (dTg t).canLay0 = true
  | .ex _ => by simp [dTg, PyData.canLay0]
  | .pw _ _ => by simp [dTg, PyData.canLay0, PyData.canLayAll0]
theorem dep_Tg : ∀ t : Tg, (dTg t).depth ≤ 2
  | .ex _ => by simp [dTg, PyData.depth]
  | .pw _ _ => by simp [dTg, PyData.depth, PyData.depthAll]
theorem lay_web1 (bs : List Nat) : (PyData.tuple [.tuple (ways3.map .str), .tuple (dBits bs)]).canLay0 = true := by
  simp only [PyData.canLay0, PyData.canLayAll0, Bool.and_true, Bool.and_eq_true]
  refine ⟨by decide +kernel, lay_all (fun b => by simp [PyData.canLay0]) bs⟩
theorem dep_web1 (bs : List Nat) : (PyData.tuple [.tuple (ways3.map .str), .tuple (dBits bs)]).depth ≤ 64 := by
  simp only [PyData.depth, PyData.depthAll]
  have h1 := dep_all (m := 0) (f := fun b : Nat => PyData.int (b : Nat)) (fun b => by simp [PyData.depth]) bs
  have h2 : PyData.depthAll (ways3.map PyData.str) ≤ 0 := dep_all (m := 0) (f := PyData.str) (fun b => by simp [PyData.depth]) ways3
  unfold dBits
  omega
theorem lay_web2 (w e : Nat) (J : List Tg) : (PyData.tuple [.int (w : Nat), .int (e : Nat), .tuple (J.map dTg)]).canLay0 = true := by
  simp only [PyData.canLay0, PyData.canLayAll0, Bool.and_true, Bool.true_and]
  exact lay_all lay_Tg J
theorem dep_web2 (w e : Nat) (J : List Tg) : (PyData.tuple [.int (w : Nat), .int (e : Nat), .tuple (J.map dTg)]).depth ≤ 64 := by
  simp only [PyData.depth, PyData.depthAll]
  have h1 := dep_all (m := 2) dep_Tg J
  omega
end Mk
namespace Mk
open PySem PySem.Spec PyProof.Rows L2

/-! ### laid_every -/
abbrev N_laid_every : List Str := ["small", "starts", "laying", "start"]
theorem sc_laid_every : FnScope N_laid_every ["small", "starts"] (defScope s_laid_every) := ⟨rfl, rfl, rfl, by decide +kernel, rfl, by decide +kernel, by decide +kernel⟩
inductive rel_laid_every (K : PySem.W.Frag) : List Rel → Rel → Prop
  | mk (S : Rules) (e w : Nat) (g : Good S e w) : rel_laid_every K [tabR K e S.length w S, rD K (.list [.int 0])] (rLst K [webR K (LpOf S e w).begs w e (layF S w)])
theorem ok_laid_every {P : Program} {w : World} {K : PySem.W.Frag} {mg : Str → Option Value} {base : Heap} (T : Txt K mg) (hP : P.main = theP.main) : Cal P w K mg base "laid_every" 9 ["small", "starts"] [] (SpR (rel_laid_every K)) := by
  refine cal_of (st := s_laid_every) T.g_laid_every (T.d.def_ 21 rfl) (fun _ _ _ _ _ _ us hl => match us, hl with | [_, _], _ => rfl) sc_laid_every (fun vs H Q E hsp => by obtain ⟨rs, r, h, ha, _⟩ := hsp; rw [ha.len]; cases h <;> rfl) fun cdv A outer s H vs Q E hr hsp => ?_
  have hu := hr.units
  have hu0 := hu_of hr
  have hu65 := hu65_of hr
  refine ⟨_, (pss_cons (ps_set (i := 2) sc_laid_every.nd rfl (Or.inr rfl) (pe_calI (ok_EveryLaying_init (P := P) (w := w) (base := base) T hP) (hr.mono (by decide)) rfl (pa_cons (pv 0) (pa_cons (pv 1) pa_nil))))
      (pss_one (ps_ret (pe_lc rfl sc_laid_every.nd (pi_list (pv 1)) (blkOk_by (own := [("start", 3)]) rfl) (fun _ _ _ _ _ => (pg_name (i := 3) sc_laid_every.nd rfl (Or.inl rfl))) (fun _ _ _ _ _ => pts_nil) (fun _ _ _ _ _ => (pe_calM (ok_EveryLaying_opened (P := P) (w := w) (base := base) T) (hr.mono (by decide)) (pv 2) (pa_cons (pv 3) pa_nil))))))), ?_⟩

  obtain ⟨rs, r, h, ha, hQ⟩ := hsp
  cases h with
  | mk S e w' g =>
    obtain ⟨v0, v1, rfl, h0, h1⟩ := alls2 ha
    refine q_make (cons_Ev (v := v0) (Evl.ev_var rfl) (fun H1 e1 => cons_Ev (v := v1) (Evl.ev_var rfl) (fun H2 e2 x dx hx hdx hne => ?_)))
    have e12 := Ex.tr e1 e2
    have e3 : Ex H2 (upd (upd H2 dx (.own x)) x (.ins (cE K) dx [])) := Ex.tr (Ex.nw hdx) (Ex.nw (by rw [upd_ne (Ne.symm hne)]; exact hx))
    refine ⟨x, dx, v0, v1, S, e, w', H2, rfl, hx, e3, upd_same, (tabR K e S.length w' S).up e12 h0, dp_ex e12 _ _ h1, g.sm, g.lay, g.pc, fun Ja H3 b3 I3 J3 => ⟨rfl, ?_⟩⟩
    have e23 : Ex H2 H3 := ExB.ex e3 b3 hx
    have e03 : Ex H H3 := Ex.tr e12 e23
    refine g_ret (gd_lcM (K := K) (fun _ : Nat => webR K (LpOf S e w').begs w' e (layF S w')) (gi_list (ms := [0]) (f := fun s : Nat => .int (s : Nat)) (gd_v (i := 1) rfl (dp_ex e03 _ _ h1))) (by decide) (fun _ => but_web) (by exact fun _ => rfl) (fun m hm y H4 e4 hy => ?_)) (fun v H4 e4 hv => hQ v H4 (Ex.tr e03 e4) hv)
    have hm0 : m = 0 := by simpa using hm
    subst hm0
    obtain rfl := dp_int hy
    obtain ⟨dx', aA, aB, aD, xs, bs, kv, sv, Ic⟩ := I3
    exact fun H5 e5 Q' q' => meth_sp (vs := [.int 0]) (Evl.ev_var rfl) ((Ic.ex e4).ex e5).ins rfl (Evl.ea_cons (Evl.ev_var rfl) Evl.ea_nil) (fun H6 e6 => ⟨LpOf S e w', x, Ja, layF S w', rfl, ⟨_, _, _, _, _, _, _, _, ((Ic.ex e4).ex e5).ex e6⟩, ((J3.ex e4).ex e5).ex e6, g.z, g.lay.a2, g.lay.fa, g.web, fun v H7 e7 hv => q' v H7 (Ex.tr e6 e7) hv⟩)
/-! ### every_web -/
abbrev N_every_web : List Str := ["table", "small"]
theorem sc_every_web : FnScope N_every_web ["table"] (defScope s_every_web) := ⟨rfl, rfl, rfl, by decide +kernel, rfl, by decide +kernel, by decide +kernel⟩
inductive rel_every_web (K : PySem.W.Frag) : List Rel → Rel → Prop
  | mk (R : Rules) (e n w : Nat) (sm : Small e n w R) (g : Good (leastF R) e w) : rel_every_web K [tabR K e n w R] (webR K (LpOf (leastF R) e w).begs w e (layF (leastF R) w))
theorem ok_every_web {P : Program} {w : World} {K : PySem.W.Frag} {mg : Str → Option Value} {base : Heap} (T : Txt K mg) (hP : P.main = theP.main) : Cal P w K mg base "every_web" 10 ["table"] [] (SpR (rel_every_web K)) := by
  refine cal_of (st := s_every_web) T.g_every_web (T.d.def_ 22 rfl) (fun _ _ _ _ _ _ us hl => match us, hl with | [_], _ => rfl) sc_every_web (fun vs H Q E hsp => by obtain ⟨rs, r, h, ha, _⟩ := hsp; rw [ha.len]; cases h <;> rfl) fun cdv A outer s H vs Q E hr hsp => ?_
  have hu := hr.units
  have hu0 := hu_of hr
  have hu65 := hu65_of hr
  refine ⟨_, (pss_cons (ps_expr (pe_cal (ok_need_table (P := P) (w := w) (base := base) T) (hr.mono (by decide)) rfl (pa_cons (pv 0) pa_nil)))
      (pss_cons (ps_set (i := 1) sc_every_web.nd rfl (Or.inl rfl) (pe_cal (ok_least_in (P := P) (w := w) (base := base) T) (hr.mono (by decide)) rfl (pa_cons (pv 0) pa_nil)))
      (pss_cons (ps_if (pt_cmpR op_gt (pe_cal (ok_pieces_for (P := P) (w := w) (base := base) T) (hr.mono (by decide)) rfl (pa_cons (pe_fld (pv 1) rfl) (pa_cons (pe_fld (pv 1) rfl) (pa_cons (pe_callB (id := "len") call_len_seq (by rfl) T.f_len PySem.boot_len (pa_cons (pe_cal (ok_arrivals_of (P := P) (w := w) (base := base) T) (hr.mono (by decide)) rfl (pa_cons (pv 1) (pa_cons (pe_lst (pa_cons pe_int pa_nil)) pa_nil))) pa_nil)) pa_nil)))) (pe_gint rfl T.i_MOST_PIECES) (nomark _)) (pss_one ps_never) pss_nil)
      (pss_one (ps_ret (pe_ix ix_list (pe_cal (ok_laid_every (P := P) (w := w) (base := base) T hP) (hr.mono (by decide)) rfl (pa_cons (pv 1) (pa_cons (pe_lst (pa_cons pe_int pa_nil)) pa_nil))) pe_int (fun _ _ => rfl))))))), ?_⟩

  obtain ⟨rs, r, h, ha, hQ⟩ := hsp
  cases h with
  | mk R e n w' sm g =>
    obtain ⟨v0, rfl, h0⟩ := alls1 ha
    refine Evl.q_drop (v := .non) (ev_call1 (rel := rel_need_table K) (ga_1 (gd_v (i := 0) (r := tabR K e n w' R) rfl h0)) (.mk _)) (fun H1 e1 => ?_)
    refine g_asg (r := tabR K e (leastF R).length w' (leastF R)) (gd_call (ga_1 (gd_v (i := 0) (r := tabR K e n w' R) rfl ((tabR K e n w' R).up e1 h0))) (.mk R e n w' sm)) (fun v1 H2 e2 hv1 => ?_)
    have hz0 : ∀ (σ : L2.St) H3, GD (tLst (tCons (tC (.int 0)) tNil)) σ H3 (rD K (.list [.int 0])) := fun σ H3 => gd_lst (ds := [.int 0]) (ga_int (i := 0) Evl.ev_c ga_nil) (by decide)
    have ml : (arrF (leastF R)).length ≤ 400 := g.lay.a2
    have ml1 : 1 ≤ (arrF (leastF R)).length := g.lay.a1
    refine Evl.q_when (b := false) (Evl.et_B (Evl.ev_op (ev_call (rel := rel_pieces_for K) (ga_cons (gd_fld (r := rD K (.int (leastF R).length)) (gd_v (i := 1) rfl hv1) T.cl_Table T.n_Table_standings) (ga_cons (gd_fld (r := rD K (.int w')) (gd_v (i := 1) rfl hv1) T.cl_Table T.n_Table_ways) (ga_cons (gd_ev (v := .int ((arrF (leastF R)).length : Nat)) (Evl.ev_is (ev_lenS (gd_to (r' := rD K (.list ((arrF (leastF R)).map dArr))) (gd_call (rel := rel_arrivals_of K) (ga_cons (gd_v (i := 1) rfl hv1) (ga_1 (hz0 _ _))) (.mk (leastF R) e (leastF R).length w' g.sm)) (fun _ _ _ q => rLm_D q)) (.inl rfl)) (by rw [List.length_map])) (r := rD K (.int ((arrF (leastF R)).length : Nat))) (.int _)) ga_nil))) (.mk _ _ _ g.sm.n2 ⟨g.sm.w1, g.sm.w2⟩ ⟨ml1, by omega⟩)) Evl.ev_c (rv_gtF (by have := g.pc; omega)))) (fun h => by cases h) (fun _ H3 e3 => ?_)
    exact g_ret (gd_ixLr (i := 0) (gd_call (rel := rel_laid_every K) (ga_cons (gd_v (i := 1) rfl ((tabR K e (leastF R).length w' (leastF R)).up e3 hv1)) (ga_1 (hz0 _ _))) (.mk (leastF R) e w' g)) Evl.ev_c rfl) (fun v H4 e4 hv => hQ v H4 (Ex.tr e1 (Ex.tr e2 (Ex.tr e3 e4))) hv)
/-! ### Web.eq -/
abbrev N_Web_eq : List Str := ["self", "other"]
theorem sc_Web_eq : FnScope N_Web_eq ["self", "other"] (defScope s_Web_eq) := ⟨rfl, rfl, rfl, by decide +kernel, rfl, by decide +kernel, by decide +kernel⟩
inductive rel_Web_eq (K : PySem.W.Frag) : List Rel → Rel → Prop
  | mk (bs : List Nat) (w e : Nat) (J : List Tg) : rel_Web_eq K [webR K bs w e J, webR K bs w e J] (rV (.bl true))
theorem ok_Web_eq {P : Program} {w : World} {K : PySem.W.Frag} {mg : Str → Option Value} {base : Heap} (T : Txt K mg) : ∃ fd, FnOk P w K mg base CX0 1 (He.ma K (He.ga K "Web") "__eq__") fd ["self", "other"] (SpR (rel_Web_eq K)) ∧ Binds K fd ["self", "other"] [] := by
  refine fnb_of (st := s_Web_eq) (T.d.def_ 38 rfl) (fun _ _ _ _ _ _ us hl => match us, hl with | [_, _], _ => rfl) sc_Web_eq (fun vs H Q E hsp => by obtain ⟨rs, r, h, ha, _⟩ := hsp; rw [ha.len]; cases h <;> rfl) fun cdv A outer s H vs Q E hr hsp => ?_
  have hu := hr.units
  have hu0 := hu_of hr
  have hu65 := hu65_of hr
  refine ⟨_, (pss_cons (ps_if (PW.pt (pw_or (pt_not (pt_val (pe_callB (id := "isinstance") (C8.call_isC (T.ins_Web)) (by rfl) T.f_isinstance (by decide +kernel) (pa_cons (pv 1) (pa_cons (pe_gref rfl T.g_Web) pa_nil))))) (pw_or1 (pt_cmpR (op_neD hu) (pe_tup (pa_cons (pe_fld (pe_fld (pv 0) rfl) rfl) (pa_cons (pe_fld (pv 0) rfl) pa_nil))) (pe_tup (pa_cons (pe_fld (pe_fld (pv 1) rfl) rfl) (pa_cons (pe_fld (pv 1) rfl) pa_nil))) (nomark _))))) (pss_one (ps_ret pe_bl)) pss_nil)
      (pss_one (ps_ret (pe_cmpR (op_eqD hu) (pe_tup (pa_cons (pe_fld (pv 0) rfl) (pa_cons (pe_fld (pv 0) rfl) (pa_cons (pe_fld (pv 0) rfl) pa_nil)))) (pe_tup (pa_cons (pe_fld (pv 1) rfl) (pa_cons (pe_fld (pv 1) rfl) (pa_cons (pe_fld (pv 1) rfl) pa_nil)))) (nomark _))))), ?_⟩

  obtain ⟨rs, r, h, ha, hQ⟩ := hsp
  cases h with
  | mk bs w' e J =>
    obtain ⟨v0, v1, rfl, h0, h1⟩ := alls2 ha
    have g1 : ∀ (i : Nat) (σ : L2.St) (v : V) H', σ[i]? = some (some v) → (webR K bs w' e J).on v H' → GD (tTup (tCons (tFld K (tFld K (tVar i) "kind") "ways") (tCons (tFld K (tVar i) "begins") tNil))) σ H' (rD K (.tuple [.tuple (ways3.map .str), .tuple (dBits bs)])) := fun i σ v H' hi hv =>
      gd_tup (ds := [.tuple (ways3.map .str), .tuple (dBits bs)]) (ga_cons (gd_fld (gd_fld (r := kindR K) (gd_v hi hv) T.cl_Web T.n_Web_kind) T.cl_Kind T.n_Kind_ways) (ga_1 (gd_fld (gd_v hi hv) T.cl_Web T.n_Web_begins))) (by simp)
    have g2 : ∀ (i : Nat) (σ : L2.St) (v : V) H', σ[i]? = some (some v) → (webR K bs w' e J).on v H' → GD (tTup (tCons (tFld K (tVar i) "entries") (tCons (tFld K (tVar i) "exits") (tCons (tFld K (tVar i) "joins") tNil)))) σ H' (rD K (.tuple [.int (w' : Nat), .int (e : Nat), .tuple (J.map dTg)])) := fun i σ v H' hi hv =>
      gd_tup (ds := [.int (w' : Nat), .int (e : Nat), .tuple (J.map dTg)]) (ga_cons (gd_fld (gd_v hi hv) T.cl_Web T.n_Web_entries) (ga_cons (gd_fld (gd_v hi hv) T.cl_Web T.n_Web_exits) (ga_1 (gd_fld (gd_v hi hv) T.cl_Web T.n_Web_joins)))) (by simp)
    have s1 := shaped_of (lay_web1 bs) (dep_web1 bs)
    have s2 := shaped_of (lay_web2 w' e J) (dep_web2 w' e J)
    refine Evl.q_when (b := false) (Evl.et_or (a := false) (b := false) (Evl.et_not (a := true) (Evl.et_test (ev_isiC (gd_v (i := 1) rfl h1)))) (fun _ => Evl.et_B (Evl.ev_is (ev_neD (g1 0 _ v0 _ rfl h0) (g1 1 _ v1 _ rfl h1) s1 s1) (by rw [eqv_self _ (lay_web1 bs)]; rfl)))) (fun h => by cases h) (fun _ H1 e1 => ?_)
    exact Evl.s_ret (Evl.ev_is (ev_eqD (g2 0 _ v0 _ rfl ((webR K bs w' e J).up e1 h0)) (g2 1 _ v1 _ rfl ((webR K bs w' e J).up e1 h1)) s2 s2) (by rw [eqv_self _ (lay_web2 w' e J)])) (fun H2 e2 => hQ _ _ (Ex.tr e1 e2) rfl)
end Mk
namespace Mk
open PySem PySem.Spec PyProof.Rows L2
/-! ### the law's mill -/
structure Mill (M c : Addr) (cs : List Int) (t l : Int) (H : Hp) : Prop where
  at_ : H M = some (.lst [.ref c, .int t, .int l])
  cells : H c = some (.lst (cs.map V.int))
  ne : c ≠ M
  t0 : 0 ≤ t
  l0 : 0 ≤ l
  cl : cs.length ≤ 60
theorem Mill.ex {M c : Addr} {cs : List Int} {t l : Int} {H H' : Hp} (h : Mill M c cs t l H) (e : Ex H H') : Mill M c cs t l H' := ⟨e _ _ h.at_, e _ _ h.cells, h.ne, h.t0, h.l0, h.cl⟩
theorem Mill.put {M c : Addr} {cs : List Int} {t l t' l' : Int} {H : Hp} (h : Mill M c cs t l H) (h1 : 0 ≤ t') (h2 : 0 ≤ l') : Mill M c cs t' l' (upd H M (.lst [.ref c, .int t', .int l'])) := ⟨upd_same, by rw [upd_ne h.ne]; exact h.cells, h.ne, h1, h2, h.cl⟩
def SpMill (P : Program) (w : World) (K : PySem.W.Frag) : Sp := fun vs H Q E => ∃ (v0 : V) (is : List Int), vs = [v0] ∧ Dp K H v0 (.list (is.map .int)) ∧ is.length ≤ 1000 ∧ ∀ M c H', H M = none → Ex H H' → Mill M c (is.take 60) 0 0 H' → Q (.ref M) H'
def SpCog (P : Program) (w : World) (K : PySem.W.Frag) : Sp := fun vs H Q E => ∃ M c cs t l many, vs = [.ref M, .int ((many : Nat) : Int)] ∧ Mill M c cs t l H ∧ 1 ≤ many ∧ many ≤ 1000000 ∧ t ≤ 1000000 ∧ ∀ k t' l' H', ExB M H H' → Mill M c cs t' l' H' → t' ≤ t + 1 → k < many → Q (.int ((k : Nat) : Int)) H'
theorem fmod_nat (l : Int) {m : Nat} (h : 1 ≤ m) : ∃ k : Nat, k < m ∧ l.fmod (m : Int) = (k : Int) := by
  have h1 : 0 ≤ l.fmod (m : Int) := Int.fmod_nonneg_of_pos l (by omega)
  have h2 : l.fmod (m : Int) < (m : Int) := Int.fmod_lt_of_pos l (by omega)
  exact ⟨(l.fmod (m : Int)).toNat, by omega, by omega⟩
theorem fdiv_nn {l : Int} {m : Nat} (h : 0 ≤ l) : 0 ≤ l.fdiv (m : Int) := Int.fdiv_nonneg h (by omega)
theorem ev_abs {σ : L2.St} {H : Hp} {te : TE} {i : Int} (h : Evl.Ev te σ H (.int i)) : Evl.Ev (tCB (fun xs H Q => ∃ i, xs = [.int i] ∧ Q (.int (if i < 0 then -i else i)) H) (tCons te tNil)) σ H (.int (if i < 0 then -i else i)) := fun H1 e Q q => h H1 e _ fun H2 e2 => ⟨i, rfl, q H2 e2⟩
theorem lay_int (i : Int) : (PyData.int i).canLay0 = true := by simp [PyData.canLay0]
theorem dep_int (i : Int) : (PyData.int i).depth ≤ 60 := by simp [PyData.depth]
theorem dpa_ints {K : PySem.W.Frag} {H : Hp} : ∀ cs : List Int, DpAll K H (cs.map V.int) (cs.map PyData.int)
  | [] => .nil
  | c :: cs => .cons (.int c) (dpa_ints cs)
theorem q_retL {tt : TA} {σ : L2.St} {H : Hp} {D : Ends} (h : tt σ H fun xs H1 => xs.length ≤ sizeLine ∧ ∀ p, H1 p = none → D.rt (.ref p) (upd H1 p (.lst xs))) : tRet (tLst tt) D σ H := h
end Mk
namespace Mk
open PySem PySem.Spec PyProof.Rows L2

/-! ### _law_mill -/
abbrev N_law_mill : List Str := ["_law_script", "_law_cell"]
theorem sc_law_mill : FnScope N_law_mill ["_law_script"] (defScope s_law_mill) := ⟨rfl, rfl, rfl, by decide +kernel, rfl, by decide +kernel, by decide +kernel⟩

theorem ok_law_mill {P : Program} {w : World} {K : PySem.W.Frag} {mg : Str → Option Value} {base : Heap} (T : Txt K mg) : Cal P w K mg base "_law_mill" 1 ["_law_script"] [] (SpMill P w K) := by
  refine cal_of (st := s_law_mill) T.g__law_mill (T.d.def_ 23 rfl) (fun _ _ _ _ _ _ us hl => match us, hl with | [_], _ => rfl) sc_law_mill (fun vs H Q E hsp => by obtain ⟨_, _, rfl, _⟩ := hsp; rfl) fun cdv A outer s H vs Q E hr hsp => ?_
  have hu := hr.units
  have hu0 := hu_of hr
  have hu65 := hu65_of hr
  refine ⟨_, (pss_one (ps_ret (pe_lst (pa_cons (pe_lc rfl sc_law_mill.nd (pi_list (pe_slice sl_list (pv 0) po_none (po_some pe_int))) (blkOk_by (own := [("_law_cell", 1)]) rfl) (fun _ _ _ _ _ => (pg_name (i := 1) sc_law_mill.nd rfl (Or.inl rfl))) (fun _ _ _ _ _ => pts_nil) (fun _ _ _ _ _ => (pe_callTy (T := "int") call_int1 (by rfl) T.f_int (by decide +kernel) (pa_cons (pv 1) pa_nil)))) (pa_cons pe_int (pa_cons pe_int pa_nil)))))), ?_⟩

  obtain ⟨v0, is, rfl, h0, hl, hQ⟩ := hsp
  have hsl := gd_slL (K := K) (j := 60) (σ := start N_law_mill [v0]) (H := H) (ta := tVar 0) (tb := tC (.int 60)) (gd_v (i := 0) rfl h0) Evl.ev_c
  rw [← List.map_take] at hsl
  refine q_retL (cons_GL (gl_lcM (fun i : Int => rV (.int i)) (gi_list (ms := is.take 60) (f := fun i : Int => .int i) hsl) (by rw [List.length_take]; omega) (fun _ => but_V) (by exact fun _ => rfl) (fun i hi y H1 e1 hy => ?_)) (fun c ys H1 hc e1 hc1 hys => ?_))
  · obtain rfl := dp_int hy
    exact gd_ev (ev_intI (Evl.ev_var rfl)) rfl
  · have e := alls_val hys
    subst e
    refine ⟨by show 3 ≤ sizeLine; decide, fun M hM => ?_⟩
    have hcM : c ≠ M := fun z => by rw [← z, hc1] at hM; cases hM
    refine hQ M c _ (Evl.fresh_back e1 hM) (Ex.tr e1 (Ex.nw hM)) ⟨upd_same, by rw [upd_ne hcM]; exact hc1, hcM, by omega, by omega, by rw [List.length_take]; omega⟩
/-! ### _law_cog -/
abbrev N_law_cog : List Str := ["_law_mill_here", "_law_many", "_law_left", "_law_turn", "_law_cell", "_law_mixed"]
theorem sc_law_cog : FnScope N_law_cog ["_law_mill_here", "_law_many"] (defScope s_law_cog) := ⟨rfl, rfl, rfl, by decide +kernel, rfl, by decide +kernel, by decide +kernel⟩

theorem ok_law_cog {P : Program} {w : World} {K : PySem.W.Frag} {mg : Str → Option Value} {base : Heap} (T : Txt K mg) : Cal P w K mg base "_law_cog" 1 ["_law_mill_here", "_law_many"] [] (SpCog P w K) := by
  refine cal_of (st := s_law_cog) T.g__law_cog (T.d.def_ 24 rfl) (fun _ _ _ _ _ _ us hl => match us, hl with | [_, _], _ => rfl) sc_law_cog (fun vs H Q E hsp => by obtain ⟨_, _, _, _, _, _, rfl, _⟩ := hsp; rfl) fun cdv A outer s H vs Q E hr hsp => ?_
  have hu := hr.units
  have hu0 := hu_of hr
  have hu65 := hu65_of hr
  refine ⟨_, (pss_cons (ps_if (pt_cmpR op_gt (pe_ix ix_list (pv 0) pe_int (fun _ _ => rfl)) pe_int (nomark _)) (pss_cons (ps_set (i := 2) sc_law_cog.nd rfl (Or.inl rfl) (pe_callTy (T := "int") call_int1 (by rfl) T.f_int (by decide +kernel) (pa_cons (pe_ix ix_list (pv 0) pe_int (fun _ _ => rfl)) pa_nil)))
      (pss_cons (ps_asg (pe_op op_fdivN (pv 2) (pv 1)) (pg_sub (pv 0) pe_int set_list))
      (pss_one (ps_ret (pe_op op_modN (pe_callTy (T := "int") call_int1 (by rfl) T.f_int (by decide +kernel) (pa_cons (pv 2) pa_nil)) (pv 1)))))) pss_nil)
      (pss_cons (ps_set (i := 3) sc_law_cog.nd rfl (Or.inl rfl) (pe_ix ix_list (pv 0) pe_int (fun _ _ => rfl)))
      (pss_cons (ps_asg (pe_op op_add (pv 3) pe_int) (pg_sub (pv 0) pe_int set_list))
      (pss_cons (ps_set (i := 4) sc_law_cog.nd rfl (Or.inl rfl) (pe_op op_add (pe_op op_mul pe_int (pv 3)) pe_int))
      (pss_cons (ps_if (pt_cmpR (op_neD hu) (pe_ix ix_list (pv 0) pe_int (fun _ _ => rfl)) (pe_lst pa_nil) (nomark _)) (pss_one (ps_set (i := 4) sc_law_cog.nd rfl (Or.inl rfl) (pe_ix ix_list (pe_ix ix_list (pv 0) pe_int (fun _ _ => rfl)) (pe_op op_mod (pe_callTy (T := "int") call_int1 (by rfl) T.f_int (by decide +kernel) (pa_cons (pv 3) pa_nil)) (pe_callB (id := "len") call_len_seq (by rfl) T.f_len PySem.boot_len (pa_cons (pe_ix ix_list (pv 0) pe_int (fun _ _ => rfl)) pa_nil))) (fun _ _ => rfl)))) pss_nil)
      (pss_cons (ps_if (PW.pt (pw_and (pt_cmpR op_lt (pv 3) (pe_callB (id := "len") call_len_seq (by rfl) T.f_len PySem.boot_len (pa_cons (pe_ix ix_list (pv 0) pe_int (fun _ _ => rfl)) pa_nil)) (nomark _)) (pw_and1 (pt_cmpR op_ge (pe_callB (id := "abs") call_abs (by rfl) T.f_abs (by decide +kernel) (pa_cons (pv 4) pa_nil)) (pe_op op_pow pe_int pe_int) (nomark _))))) (pss_cons (ps_set (i := 2) sc_law_cog.nd rfl (Or.inl rfl) (pe_op op_add (pe_op op_mul pe_int (pe_op op_sub (pe_callB (id := "abs") call_abs (by rfl) T.f_abs (by decide +kernel) (pa_cons (pe_callTy (T := "int") call_int1 (by rfl) T.f_int (by decide +kernel) (pa_cons (pv 4) pa_nil)) pa_nil)) (pe_op op_pow pe_int pe_int))) (pe_callTy (T := "int") call_int1 (by rfl) T.f_int (by decide +kernel) (pa_cons (pe_cmpR op_lt (pv 4) pe_int (nomark _)) pa_nil))))
      (pss_cons (ps_asg (pe_op op_fdivN (pv 2) (pv 1)) (pg_sub (pv 0) pe_int set_list))
      (pss_one (ps_ret (pe_op op_modN (pe_callTy (T := "int") call_int1 (by rfl) T.f_int (by decide +kernel) (pa_cons (pv 2) pa_nil)) (pv 1)))))) pss_nil)
      (pss_cons (ps_set (i := 5) sc_law_cog.nd rfl (Or.inl rfl) (pe_op op_mod (pe_callTy (T := "int") call_int1 (by rfl) T.f_int (by decide +kernel) (pa_cons (pe_op op_pow (pe_op op_add (pe_op op_add (pe_op op_mod (pe_callTy (T := "int") call_int1 (by rfl) T.f_int (by decide +kernel) (pa_cons (pv 4) pa_nil)) pe_int) (pe_op op_mul pe_int (pv 3))) pe_int) pe_int) pa_nil)) pe_int))
      (pss_cons (ps_set (i := 5) sc_law_cog.nd rfl (Or.inl rfl) (pe_op op_mod (pe_callTy (T := "int") call_int1 (by rfl) T.f_int (by decide +kernel) (pa_cons (pe_op op_pow (pe_op op_add (pe_op op_add (pe_op op_mul (pv 5) (pe_op op_add (pe_op op_mul pe_int (pv 3)) pe_int)) (pe_op op_mul (pe_op op_mul pe_int (pv 3)) (pv 3))) pe_int) pe_int) pa_nil)) pe_int))
      (pss_one (ps_ret (pe_op op_modN (pe_callTy (T := "int") call_int1 (by rfl) T.f_int (by decide +kernel) (pa_cons (pe_op op_fdivN (pv 5) pe_int) pa_nil)) (pv 1)))))))))))), ?_⟩

  obtain ⟨M, c, cs, t, l, many, rfl, m0, hm1, hm2, ht, hQ⟩ := hsp
  have hd : CDivN l ((many : Nat) : Int) := ⟨by omega, by omega⟩
  have ix2 : ∀ (σ : L2.St) H' t' l', σ[0]? = some (some (.ref M)) → Mill M c cs t' l' H' → Evl.Ev (tOp (rIxL K) (tVar 0) (tC (.int 2))) σ H' (.int l') := fun σ H' t' l' h m => Evl.ev_op (Evl.ev_var h) Evl.ev_c (Evl.rv_ixL (Evl.sq_of m.at_) rfl)
  have ix1 : ∀ (σ : L2.St) H' t' l', σ[0]? = some (some (.ref M)) → Mill M c cs t' l' H' → Evl.Ev (tOp (rIxL K) (tVar 0) (tC (.int 1))) σ H' (.int t') := fun σ H' t' l' h m => Evl.ev_op (Evl.ev_var h) Evl.ev_c (Evl.rv_ixL (Evl.sq_of m.at_) rfl)
  have ix0 : ∀ (σ : L2.St) H' t' l', σ[0]? = some (some (.ref M)) → Mill M c cs t' l' H' → Evl.Ev (tOp (rIxL K) (tVar 0) (tC (.int 0))) σ H' (.ref c) := fun σ H' t' l' h m => Evl.ev_op (Evl.ev_var h) Evl.ev_c (Evl.rv_ixL (Evl.sq_of m.at_) rfl)
  refine Evl.q_when (b := decide ((0 : Int) < l)) (Evl.et_B (Evl.ev_op (ix2 _ _ _ _ rfl m0) Evl.ev_c Evl.rv_I0)) (fun hb H1 e1 => ?_) (fun hb H1 e1 => ?_)
  · have m1 := m0.ex e1
    refine Evl.q_asg (v := .int l) (ev_intI (ix2 _ _ _ _ rfl m1)) (fun H2 e2 => ?_)
    have m2 := m1.ex e2
    refine Evl.q_setL (l := M) (j := 2) m2.at_ (Evl.ev_op (Evl.ev_var rfl) (Evl.ev_var rfl) (Evl.rv_I hd)) (Evl.ev_var rfl) Evl.ev_c (by simp) (fun H3 e3 => ?_)
    have m3 := (m2.ex e3).put m0.t0 (fdiv_nn (m := many) m0.l0)
    obtain ⟨k, hk1, hk2⟩ := fmod_nat l hm1
    exact Evl.s_ret (Evl.ev_is (Evl.ev_op (ev_intI (Evl.ev_var rfl)) (Evl.ev_var rfl) (Evl.rv_I (by omega))) (by rw [hk2])) (fun H4 e4 => hQ k t _ H4 (((Ex.but (Ex.tr e1 (Ex.tr e2 e3))).tr (ExB.upd M H3 _)).tr (Ex.but e4)) (m3.ex e4) (by omega) hk1)
  · have m1 := m0.ex e1
    have ht0 := m0.t0
    refine Evl.q_asg (v := .int t) (ix1 _ _ _ _ rfl m1) (fun H2 e2 => ?_)
    have m2 := m1.ex e2
    refine Evl.q_setL (l := M) (j := 1) m2.at_ (Evl.ev_op (Evl.ev_var rfl) Evl.ev_c Evl.rv_I0) (Evl.ev_var rfl) Evl.ev_c (by simp) (fun H3 e3 => ?_)
    have m3 : Mill M c cs (t + 1) l (upd H3 M (.lst [.ref c, .int (t + 1), .int l])) := (m2.ex e3).put (by omega) m0.l0
    have b3 : ExB M H (upd H3 M (.lst [.ref c, .int (t + 1), .int l])) := (Ex.but (Ex.tr e1 (Ex.tr e2 e3))).tr (ExB.upd M H3 _)
    obtain ⟨H4, hH4⟩ : ∃ H4, H4 = upd H3 M (.lst [.ref c, .int (t + 1), .int l]) := ⟨_, rfl⟩
    show tSeq _ _ _ _ (upd H3 M (.lst [.ref c, .int (t + 1), .int l]))
    rw [← hH4] at m3 b3 ⊢
    refine Evl.q_asg (v := .int (41017 * t + 8219)) (Evl.ev_op (Evl.ev_op Evl.ev_c (Evl.ev_var rfl) (Evl.rv_I (.inl (by omega)))) Evl.ev_c Evl.rv_I0) (fun H5 e5 => ?_)
    have m5 := m3.ex e5
    have hcs : GD (tOp (rIxL K) (tVar 0) (tC (.int 0))) _ H5 (rD K (.list (cs.map .int))) := gd_ev (ix0 (((start N_law_cog [.ref M, .int ((many : Nat) : Int)]).set 3 (some (.int t))).set 4 (some (.int (41017 * t + 8219)))) _ _ _ rfl m5) (.lst (Evl.sq_of m5.cells) (dpa_ints cs))
    obtain ⟨C, hC⟩ : ∃ C : Int, C = if cs = [] then 41017 * t + 8219 else (cs[(t % (cs.length : Int)).toNat]?).getD 0 := ⟨_, rfl⟩
    refine Evl.q_ifAsg (v := .int C) (b := decide (cs ≠ [])) (Evl.et_B (Evl.ev_is (ev_neD hcs (gd_lst (ds := []) ga_nil (by decide)) (shaped_list lay_int dep_int cs) (by decide +kernel)) ?_)) (fun hb => ?_) (fun hb => ?_) (fun H6 e6 => ?_)
    · cases cs with
      | nil => simp [PyData.eqv, PyData.eqvAll]
      | cons a cs => simp [PyData.eqv, PyData.eqvAll]
    · have hne : cs ≠ [] := of_decide_eq_true hb
      have hlp : 0 < cs.length := List.length_pos_iff.mpr hne
      have hmod1 : 0 ≤ t % (cs.length : Int) := Int.emod_nonneg _ (by omega)
      have hmod2 : t % (cs.length : Int) < (cs.length : Int) := Int.emod_lt_of_pos _ (by omega)
      have hidx : (t % (cs.length : Int)).toNat < cs.length := by omega
      refine Evl.ev_op (ix0 _ _ _ _ rfl m5) (Evl.ev_is (Evl.ev_op (ev_intI (Evl.ev_var rfl)) (ev_lenS hcs (.inl rfl)) (Evl.rv_I (by rw [List.length_map]; omega))) (show _ = V.int (((t % (cs.length : Int)).toNat : Nat) : Int) by rw [List.length_map]; show V.int _ = V.int _; congr 1; omega)) (Evl.rv_ixL (Evl.sq_of m5.cells) (atI_nat ?_))
      rw [hC, if_neg hne, List.getElem?_map, List.getElem?_eq_getElem hidx]
      rfl
    · have he : cs = [] := by simpa using hb
      rw [hC, if_pos he]
      rfl
    · have m6 := m5.ex e6
      have b6 := (b3.tr (Ex.but e5)).tr (Ex.but e6)
      have hcs6 : ∀ (σ : L2.St), σ[0]? = some (some (.ref M)) → GD (tOp (rIxL K) (tVar 0) (tC (.int 0))) σ H6 (rD K (.list (cs.map .int))) := fun σ h => gd_ev (ix0 σ _ _ _ h m6) (.lst (Evl.sq_of m6.cells) (dpa_ints cs))
      refine Evl.q_when (b := decide (t < (cs.length : Int)) && decide ((10 : Int) ^ (18 : Int).toNat ≤ (if C < 0 then -C else C))) (Evl.et_and (Evl.et_B (Evl.ev_is (Evl.ev_op (Evl.ev_var rfl) (ev_lenS (hcs6 _ rfl) (.inl rfl)) Evl.rv_I0) (by rw [List.length_map]))) (fun _ => Evl.et_B (Evl.ev_op (ev_abs (Evl.ev_var rfl)) (Evl.ev_op Evl.ev_c Evl.ev_c (Evl.rv_I ⟨by decide, by decide, by decide⟩)) Evl.rv_I0))) (fun hb H7 e7 => ?_) (fun hb H7 e7 => ?_)
      · have hb2 := of_decide_eq_true (Bool.and_eq_true_iff.mp hb).2
        have m7 := m6.ex e7
        refine Evl.q_asg (v := .int (2 * ((if C < 0 then -C else C) - (10 : Int) ^ (18 : Int).toNat) + (if decide (C < 0) then 1 else 0))) (Evl.ev_op (Evl.ev_op Evl.ev_c (Evl.ev_op (ev_abs (ev_intI (Evl.ev_var rfl))) (Evl.ev_op Evl.ev_c Evl.ev_c (Evl.rv_I ⟨by decide, by decide, by decide⟩)) Evl.rv_I0) (Evl.rv_I (.inl (by omega)))) (ev_intB (Evl.ev_op (Evl.ev_var rfl) Evl.ev_c Evl.rv_I0)) Evl.rv_I0) (fun H8 e8 => ?_)
        obtain ⟨lf, hlf⟩ : ∃ lf : Int, lf = 2 * ((if C < 0 then -C else C) - (10 : Int) ^ (18 : Int).toNat) + (if decide (C < 0) then 1 else 0) := ⟨_, rfl⟩
        rw [← hlf]
        have hlf0 : 0 ≤ lf := by
          rw [hlf]
          have : (0 : Int) ≤ (if decide (C < 0) then 1 else 0) := by split <;> omega
          omega
        have m8 := m7.ex e8
        refine Evl.q_setL (l := M) (j := 2) m8.at_ (Evl.ev_op (Evl.ev_var rfl) (Evl.ev_var rfl) (Evl.rv_I ⟨by omega, by omega⟩)) (Evl.ev_var rfl) Evl.ev_c (by simp) (fun H9 e9 => ?_)
        have m9 := (m8.ex e9).put (t' := t + 1) (l' := lf.fdiv ((many : Nat) : Int)) (by omega) (fdiv_nn (m := many) hlf0)
        obtain ⟨k, hk1, hk2⟩ := fmod_nat lf hm1
        exact Evl.s_ret (Evl.ev_is (Evl.ev_op (ev_intI (Evl.ev_var rfl)) (Evl.ev_var rfl) (Evl.rv_I (by omega))) (by rw [hk2])) (fun H10 e10 => hQ k (t + 1) _ H10 (((b6.tr (Ex.but (Ex.tr e7 (Ex.tr e8 e9)))).tr (ExB.upd M H9 _)).tr (Ex.but e10)) (m9.ex e10) (by omega) hk1)
      · have m7 := m6.ex e7
        refine Evl.q_asg (v := .int ((C % 2147483549 + 37049 * t + 8219) ^ (5 : Int).toNat % 2147483629)) (Evl.ev_op (ev_intI (Evl.ev_op (Evl.ev_op (Evl.ev_op (Evl.ev_op (ev_intI (Evl.ev_var rfl)) Evl.ev_c (Evl.rv_I (by decide))) (Evl.ev_op Evl.ev_c (Evl.ev_var rfl) (Evl.rv_I (.inl (by omega)))) Evl.rv_I0) Evl.ev_c Evl.rv_I0) Evl.ev_c (Evl.rv_I ⟨by decide, by decide, by omega⟩))) Evl.ev_c (Evl.rv_I (by decide))) (fun H8 e8 => ?_)
        obtain ⟨m1v, hm1v⟩ : ∃ m1v : Int, m1v = (C % 2147483549 + 37049 * t + 8219) ^ (5 : Int).toNat % 2147483629 := ⟨_, rfl⟩
        rw [← hm1v]
        have hv0 : 0 ≤ m1v := by rw [hm1v]; exact Int.emod_nonneg _ (by decide)
        have hv1 : m1v < 2147483629 := by rw [hm1v]; exact Int.emod_lt_of_pos _ (by decide)
        clear hm1v
        have p1 : m1v * (2 * t + 3919) ≤ 2147483629 * 2003919 := Int.mul_le_mul (by omega) (by omega) (by omega) (by decide)
        have p2 : 0 ≤ m1v * (2 * t + 3919) := Int.mul_nonneg hv0 (by omega)
        have p3 : 41017 * t * t ≤ 41017000000 * 1000000 := Int.mul_le_mul (by omega) ht (by omega) (by decide)
        have p4 : 0 ≤ 41017 * t * t := Int.mul_nonneg (by omega) (by omega)
        refine Evl.q_asg (v := .int ((m1v * (2 * t + 3919) + 41017 * t * t + 37049) ^ (3 : Int).toNat % 2147483563)) (Evl.ev_op (ev_intI (Evl.ev_op (Evl.ev_op (Evl.ev_op (Evl.ev_op (Evl.ev_var rfl) (Evl.ev_op (Evl.ev_op Evl.ev_c (Evl.ev_var rfl) (Evl.rv_I (.inl (by omega)))) Evl.ev_c Evl.rv_I0) (Evl.rv_I (.inl (by omega)))) (Evl.ev_op (Evl.ev_op Evl.ev_c (Evl.ev_var rfl) (Evl.rv_I (.inl (by omega)))) (Evl.ev_var rfl) (Evl.rv_I (.inr (by omega)))) Evl.rv_I0) Evl.ev_c Evl.rv_I0) Evl.ev_c (Evl.rv_I ⟨by decide, by decide, by omega⟩))) Evl.ev_c (Evl.rv_I (by decide))) (fun H9 e9 => ?_)
        obtain ⟨k, hk1, hk2⟩ := fmod_nat (((m1v * (2 * t + 3919) + 41017 * t * t + 37049) ^ (3 : Int).toNat % 2147483563).fdiv 64) hm1
        exact Evl.s_ret (Evl.ev_is (Evl.ev_op (ev_intI (Evl.ev_op (Evl.ev_var rfl) Evl.ev_c (Evl.rv_I ⟨by decide, by decide⟩))) (Evl.ev_var rfl) (Evl.rv_I (by omega))) (by rw [hk2])) (fun H10 e10 => hQ k (t + 1) _ H10 (b6.tr (Ex.but (Ex.tr e7 (Ex.tr e8 (Ex.tr e9 e10))))) (m7.ex (Ex.tr e8 (Ex.tr e9 e10))) (by omega) hk1)
end Mk
namespace Mk
open PySem PySem.Spec PyProof.Rows L2
def SpPick (P : Program) (w : World) (K : PySem.W.Frag) : Sp := fun vs H Q E => ∃ (M c : Addr) (cs : List Int) (t l : Int) (a : Addr) (xs : List V) (ds : List PyData), vs = [.ref M, .ref a] ∧ Mill M c cs t l H ∧ t ≤ 1000000 ∧ H a = some (.lst xs) ∧ a ≠ M ∧ DpAll K H xs ds ∧ tupOnlyAll ds = true ∧ 1 ≤ ds.length ∧ ds.length ≤ 1000 ∧
  ∀ (k : Nat) (t' l' : Int) (d : PyData) (v : V) (H' : Hp), ExB M H H' → Mill M c cs t' l' H' → t' ≤ t + 1 → ds[k]? = some d → Dp K H' v d → Q v H'
theorem dpa_butM {K : PySem.W.Frag} {H H' : Hp} {M c : Addr} {cs : List Int} {t l : Int} (h : Mill M c cs t l H) (e : ExB M H H') {vs : List V} {ds : List PyData} (tt : tupOnlyAll ds = true) (q : DpAll K H vs ds) : DpAll K H' vs ds := dpa_but (fun _ _ k => sqt_but e (noT_lst h.at_) k) ds vs tt q
theorem dp_butM {K : PySem.W.Frag} {H H' : Hp} {M c : Addr} {cs : List Int} {t l : Int} (h : Mill M c cs t l H) (e : ExB M H H') {v : V} {d : PyData} (tt : tupOnly d = true) (q : Dp K H v d) : Dp K H' v d := dp_but (fun _ _ k => sqt_but e (noT_lst h.at_) k) d v tt q
theorem Mill.mut {M c : Addr} {cs : List Int} {t l : Int} {H : Hp} {p : Addr} {o : HO} (h : Mill M c cs t l H) (h1 : p ≠ M) (h2 : p ≠ c) : Mill M c cs t l (upd H p o) := ⟨by rw [upd_ne (Ne.symm h1)]; exact h.at_, by rw [upd_ne (Ne.symm h2)]; exact h.cells, h.ne, h.t0, h.l0, h.cl⟩
/-- a table of lists, all of it other than the mill -/
def rRules (K : PySem.W.Frag) (M : Addr) (R : Rules) : Rel := ⟨fun v H => ∃ a vs, v = .ref a ∧ a ≠ M ∧ H a = some (.lst vs) ∧ Alls (R.map fun r : List Rule => rLf K M (r.map dRule)) vs H, fun e ⟨a, vs, h1, h2, h3, h4⟩ => ⟨a, vs, h1, h2, e _ _ h3, Alls.up e h4⟩⟩
theorem rRules_D {K : PySem.W.Frag} {M : Addr} {R : Rules} {v : V} {H : Hp} (h : (rRules K M R).on v H) : Dp K H v (dRulesL R) := by
  obtain ⟨a, vs, rfl, _, h3, h4⟩ := h
  have e : R.map dRowL = R.map fun r => PyData.list (r.map dRule) := rfl
  unfold dRulesL
  rw [e]
  exact .lst (Evl.sq_of h3) (rLf_data h4)
theorem rRules_but {K : PySem.W.Frag} {M : Addr} {R : Rules} {v : V} {H H' : Hp} {xs : List V} (hM : H M = some (.lst xs)) (e : ExB M H H') (h : (rRules K M R).on v H) : (rRules K M R).on v H' := by
  obtain ⟨a, vs, rfl, h2, h3, h4⟩ := h
  exact ⟨a, vs, rfl, h2, e _ _ h2 h3, rLf_buts (fun r => tup_all tup_rule r) hM e h4⟩
/-- a row on the way: other than the mill and the list it stands in -/
def rRow (K : PySem.W.Frag) (M fo : Addr) (r : List Rule) : Rel := ⟨fun v H => ∃ q xs, v = .ref q ∧ q ≠ M ∧ q ≠ fo ∧ H q = some (.lst xs) ∧ DpAll K H xs (r.map dRule), fun e ⟨q, xs, h1, h2, h3, h4, h5⟩ => ⟨q, xs, h1, h2, h3, e _ _ h4, dpa_ex e _ _ h5⟩⟩
theorem rRow_buts {K : PySem.W.Frag} {M fo d0 : Addr} {H H' : Hp} {xs : List V} (hd : d0 = M ∨ d0 = fo) (h0 : H d0 = some (.lst xs)) (e : ExB d0 H H') : ∀ {R : Rules} {vs : List V}, Alls (R.map (rRow K M fo)) vs H → Alls (R.map (rRow K M fo)) vs H'
  | [], [], _ => trivial
  | r :: R, v :: vs, h => ⟨by
    obtain ⟨q, ys, h1, h2, h3, h4, h5⟩ := h.1
    have hq : q ≠ d0 := by rcases hd with z | z <;> rw [z] <;> assumption
    exact ⟨q, ys, h1, h2, h3, e _ _ hq h4, dpa_but (fun _ _ k => sqt_but e (noT_lst h0) k) _ _ (tup_all tup_rule r) h5⟩, rRow_buts hd h0 e h.2⟩
  | [], _ :: _, h => h.elim
  | _ :: _, [], h => h.elim
theorem rRow_lf {K : PySem.W.Frag} {M fo : Addr} {H : Hp} : ∀ {R : Rules} {vs : List V}, Alls (R.map (rRow K M fo)) vs H → Alls (R.map fun r => rLf K M (r.map dRule)) vs H
  | [], [], _ => trivial
  | r :: R, v :: vs, h => ⟨let ⟨q, ys, h1, h2, h3, h4, h5⟩ := h.1; ⟨q, ys, h1, h2, h4, h5⟩, rRow_lf h.2⟩
  | [], _ :: _, h => h.elim
  | _ :: _, [], h => h.elim
def SpRules (P : Program) (w : World) (K : PySem.W.Frag) : Sp := fun vs H Q E => ∃ M c cs t l n w' e, vs = [.ref M, .int ((n : Nat) : Int), .int ((w' : Nat) : Int), .int ((e : Nat) : Int)] ∧ Mill M c cs t l H ∧ t ≤ 900000 ∧ 1 ≤ n ∧ n ≤ 20 ∧ w' ≤ 20 ∧ 1 ≤ e ∧ e ≤ 100 ∧
  ∀ R t' l' v H', ExB M H H' → Mill M c cs t' l' H' → t' ≤ t + 1 + ((n * w' * 3 : Nat) : Int) → OkR e n w' R → (rRules K M R).on v H' → Q v H'
section
variable {K : PySem.W.Frag} {σ : L2.St} {H : Hp} {ta tb te : TE} {tt : TA} {r : R2} {x : V} {D : Ends} {tz : TS} {i j : Nat} {sp : Sp} {Q : VK} {rs : List Rel}
theorem ret_op (ha : Evl.Ev ta σ H x) (k : ∀ H1, Ex H H1 → tb σ H1 fun y H2 => r x y H2 D.rt) : tRet (tOp r ta tb) D σ H := ha H Ex.rfl' _ k
theorem q_parK (h : tt σ H fun vs H1 => ∃ v w, vs = [v, w] ∧ tz D ((σ.set i (some v)).set j (some w)) H1) : tSeq (tPar i j tt) tz D σ H := h
theorem cons_K {Q : List V → Hp → Prop} (h : te σ H fun v H1 => tt σ H1 fun vs H2 => Q (v :: vs) H2) : tCons te tt σ H Q := h
theorem call_K (h : tt σ H fun vs H1 => sp (vs ++ []) H1 Q E0) : tCall sp [] E0 tt σ H Q := h
theorem gl_lst (h : GA tt σ H rs) (hl : rs.length ≤ 100000) : GL (tLst tt) σ H rs := fun H1 e Q q => h H1 e _ fun xs H2 e2 hx => ⟨Evl.sz_of (by have := hx.len; omega), fun p hp => q p xs _ (Evl.fresh_back e2 hp) (Ex.tr e2 (Ex.nw hp)) upd_same (hx.up (Ex.nw hp))⟩
end
theorem if_K {b : Bool} {A B : Prop} (h1 : b = true → A) (h2 : b = false → B) : if b = true then A else B := by
  cases b
  · exact h2 rfl
  · exact h1 rfl
end Mk
namespace Mk
open PySem PySem.Spec PyProof.Rows L2

/-! ### _law_pick -/
abbrev N_law_pick : List Str := ["_law_mill_here", "_law_some"]
theorem sc_law_pick : FnScope N_law_pick ["_law_mill_here", "_law_some"] (defScope s_law_pick) := ⟨rfl, rfl, rfl, by decide +kernel, rfl, by decide +kernel, by decide +kernel⟩

theorem ok_law_pick {P : Program} {w : World} {K : PySem.W.Frag} {mg : Str → Option Value} {base : Heap} (T : Txt K mg) : Cal P w K mg base "_law_pick" 2 ["_law_mill_here", "_law_some"] [] (SpPick P w K) := by
  refine cal_of (st := s_law_pick) T.g__law_pick (T.d.def_ 25 rfl) (fun _ _ _ _ _ _ us hl => match us, hl with | [_, _], _ => rfl) sc_law_pick (fun vs H Q E hsp => by obtain ⟨_, _, _, _, _, _, _, _, rfl, _⟩ := hsp; rfl) fun cdv A outer s H vs Q E hr hsp => ?_
  have hu := hr.units
  have hu0 := hu_of hr
  have hu65 := hu65_of hr
  refine ⟨_, (pss_one (ps_ret (pe_ix ix_list (pv 1) (pe_cal (ok_law_cog (P := P) (w := w) (base := base) T) (hr.mono (by decide)) rfl (pa_cons (pv 0) (pa_cons (pe_callB (id := "len") call_len_seq (by rfl) T.f_len PySem.boot_len (pa_cons (pv 1) pa_nil)) pa_nil))) (fun _ _ => rfl)))), ?_⟩

  obtain ⟨M, c, cs, t, l, a, xs, ds, rfl, m0, ht, ha, hne, hd, htu, hl1, hl2, hQ⟩ := hsp
  have hxl := dpa_len hd
  refine ret_op (Evl.ev_var (i := 1) (v := .ref a) rfl) (fun H1 e1 => ?_)
  refine call_sp (vs := [.ref M, .int (ds.length : Nat)]) (Evl.ea_cons (Evl.ev_var rfl) (Evl.ea_cons (ev_lenS (d := .list ds) (gd_v (i := 1) (r := rD K (.list ds)) rfl (.lst (Evl.sq_of (e1 _ _ ha)) (dpa_ex e1 _ _ hd))) (.inl rfl)) Evl.ea_nil)) (fun H2 e2 => ⟨M, c, cs, t, l, ds.length, rfl, (m0.ex e1).ex e2, hl1, by omega, ht, fun k t' l' H3 b3 m3 ht' hk => ?_⟩)
  have hk' : k < ds.length := hk
  have e12 := Ex.tr e1 e2
  have hd3 := dpa_butM ((m0.ex e1).ex e2) b3 htu (dpa_ex e12 _ _ hd)
  obtain ⟨v, hv1, hv2⟩ := dpa_get (i := k) (d := ds[k]) hd3 (by rw [List.getElem?_eq_getElem hk'])
  exact ⟨a, xs, (k : Nat), v, rfl, rfl, Evl.sq_of (b3 _ _ hne (e12 _ _ ha)), atI_nat hv1, hQ k t' l' ds[k] v H3 ((Ex.but e12).tr b3) m3 ht' (by rw [List.getElem?_eq_getElem hk']) hv2⟩
/-! ### _law_rules -/
abbrev N_law_rules : List Str := ["_law_mill_here", "_law_standings", "_law_ways", "_law_exits", "_law_found", "_law_stays", "_law_standing", "_law_row", "_law_way", "_law_later"]
theorem sc_law_rules : FnScope N_law_rules ["_law_mill_here", "_law_standings", "_law_ways", "_law_exits"] (defScope s_law_rules) := ⟨rfl, rfl, rfl, by decide +kernel, rfl, by decide +kernel, by decide +kernel⟩

theorem ok_law_rules {P : Program} {w : World} {K : PySem.W.Frag} {mg : Str → Option Value} {base : Heap} (T : Txt K mg) : Cal P w K mg base "_law_rules" 3 ["_law_mill_here", "_law_standings", "_law_ways", "_law_exits"] [] (SpRules P w K) := by
  refine cal_of (st := s_law_rules) T.g__law_rules (T.d.def_ 26 rfl) (fun _ _ _ _ _ _ us hl => match us, hl with | [_, _, _, _], _ => rfl) sc_law_rules (fun vs H Q E hsp => by obtain ⟨_, _, _, _, _, _, _, _, rfl, _⟩ := hsp; rfl) fun cdv A outer s H vs Q E hr hsp => ?_
  have hu := hr.units
  have hu0 := hu_of hr
  have hu65 := hu65_of hr
  refine ⟨_, (pss_cons (ps_par (i := 4) (j := 5) (by rfl) sc_law_rules.nd rfl rfl (by decide) rfl rfl (pa_cons (pe_lst pa_nil) (pa_cons (pe_cal (ok_law_pick (P := P) (w := w) (base := base) T) (hr.mono (by decide)) rfl (pa_cons (pv 0) (pa_cons (pe_lst (pa_cons pe_int (pa_cons pe_int (pa_cons pe_int pa_nil)))) pa_nil))) pa_nil)) (by rfl))
      (pss_cons (ps_for PassesOwn.never rfl (pi_range1 rfl T.f_range (pa_cons (pv 1) pa_nil)) (pg_name (i := 6) sc_law_rules.nd rfl (Or.inl rfl))
      (pss_cons (ps_set (i := 7) sc_law_rules.nd rfl (Or.inl rfl) (pe_lst pa_nil))
      (pss_cons (ps_for PassesOwn.never rfl (pi_range1 rfl T.f_range (pa_cons (pv 2) pa_nil)) (pg_name (i := 8) sc_law_rules.nd rfl (Or.inl rfl))
      (pss_cons (ps_set (i := 9) sc_law_rules.nd rfl (Or.inl rfl) (pe_ifExp (pt_cmpR op_eq (pe_cal (ok_law_cog (P := P) (w := w) (base := base) T) (hr.mono (by decide)) rfl (pa_cons (pv 0) (pa_cons (pv 5) pa_nil))) pe_int (nomark _)) (pv 6) (pe_cal (ok_law_cog (P := P) (w := w) (base := base) T) (hr.mono (by decide)) rfl (pa_cons (pv 0) (pa_cons (pv 1) pa_nil)))))
      (pss_one (ps_expr (pe_bm PySem.F.plainAttrs_list PySem.F.slot_list_append PySem.F.type_list_append mt_append (pv 7) (pa_cons (pe_tup (pa_cons (pe_cal (ok_law_cog (P := P) (w := w) (base := base) T) (hr.mono (by decide)) rfl (pa_cons (pv 0) (pa_cons (pv 3) pa_nil))) (pa_cons (pv 9) pa_nil))) pa_nil))))))
      (pss_one (ps_expr (pe_bm PySem.F.plainAttrs_list PySem.F.slot_list_append PySem.F.type_list_append mt_append (pv 4) (pa_cons (pv 7) pa_nil)))))))
      (pss_one (ps_ret (pv 4))))), ?_⟩

  obtain ⟨M, c, cs, t, l, n, w', e, rfl, m0, ht, hn1, hn2, hw2, he1, he2, hQ⟩ := hsp
  have hnw : n * w' * 3 ≤ 20 * 20 * 3 := Nat.mul_le_mul (Nat.mul_le_mul hn2 hw2) (Nat.le_refl 3)
  refine q_parK (cons_GL (gl_lst ga_nil (by decide)) (fun fo xs0 H1 hfo e1 hfo1 hxs0 => cons_K (call_K (cons_Ev (v := .ref M) (Evl.ev_var rfl) (fun H2 e2 => cons_GL (gl_lst (rs := [rD K (.int (2 : Nat)), rD K (.int (3 : Nat)), rD K (.int (6 : Nat))]) (ga_int Evl.ev_c (ga_int Evl.ev_c (ga_int Evl.ev_c ga_nil))) (by simp)) (fun pl xs H3 hpl e3 hpl3 hxs => ?_))))))
  obtain rfl : xs0 = [] := by cases xs0 with | nil => rfl | cons _ _ => exact hxs0.elim
  have e13 := Ex.tr e2 e3
  have m3 := (m0.ex e1).ex e13
  have hfoM : fo ≠ M := fun z => by rw [z, m0.at_] at hfo; cases hfo
  have hfoc : fo ≠ c := fun z => by rw [z, m0.cells] at hfo; cases hfo
  have hplM : pl ≠ M := fun z => by rw [z, ((m0.ex e1).ex e2).at_] at hpl; cases hpl
  refine ⟨M, c, cs, t, l, pl, xs, [.int (2 : Nat), .int (3 : Nat), .int (6 : Nat)], rfl, m3, by omega, hpl3, hplM, Alls.data (ds := [.int (2 : Nat), .int (3 : Nat), .int (6 : Nat)]) hxs, rfl, by decide, by decide, fun k t1 l1 d v H4 b4 m4 ht1 hk hv => ?_⟩
  obtain ⟨s, hs1, hs2, rfl⟩ : ∃ s : Nat, 1 ≤ s ∧ s ≤ 6 ∧ v = .int (s : Nat) := by
    match k, hk with
    | 0, hk => cases hk; exact ⟨2, by decide, by decide, dp_int hv⟩
    | 1, hk => cases hk; exact ⟨3, by decide, by decide, dp_int hv⟩
    | 2, hk => cases hk; exact ⟨6, by decide, by decide, dp_int hv⟩
    | k + 3, hk => simp at hk
  refine ⟨_, _, rfl, ?_⟩
  have bH : ExB M H H4 := (Ex.but (Ex.tr e1 e13)).tr b4
  have hfo4 : H4 fo = some (.lst []) := b4 _ _ hfoM (e13 _ _ hfo1)
  refine qr_forq (n := n) (Evl.ev_var rfl) (by omega) (fun i σ' H' => ∃ (x6 x7 x8 x9 : Option V) (vs : List V) (R : Rules) (t' l' : Int), σ' = [some (.ref M), some (.int (n : Nat)), some (.int (w' : Nat)), some (.int (e : Nat)), some (.ref fo), some (.int (s : Nat)), x6, x7, x8, x9] ∧ ExB M H H' ∧ Mill M c cs t' l' H' ∧ t' ≤ t + 1 + ((i * w' * 3 : Nat) : Int) ∧ R.length = i ∧ (∀ r ∈ R, r.length = w' ∧ ∀ p ∈ r, p.1 < e ∧ p.2 < n) ∧ H' fo = some (.lst vs) ∧ Alls (R.map (rRow K M fo)) vs H')
    (fun H5 e5 => ⟨_, _, _, _, [], [], t1, l1, rfl, bH.tr (Ex.but e5), m4.ex e5, by simpa using ht1, rfl, by simp, e5 _ _ hfo4, trivial⟩) ?_ ?_
  · rintro i σ' H5 hi ⟨x6, x7, x8, x9, vs, R, t', l', rfl, b5, m5, ht5, hR1, hR2, hfo5, hvs5⟩
    have hiw : i * w' * 3 + w' * 3 ≤ n * w' * 3 := by
      have : (i + 1) * w' * 3 ≤ n * w' * 3 := Nat.mul_le_mul_right _ (Nat.mul_le_mul_right _ hi)
      rw [Nat.succ_mul, Nat.add_mul] at this
      exact this
    refine Evl.q_asgL (Evl.el_lst (vs := []) Evl.ea_nil (by decide)) (fun ro H6 hro e6 hro6 => ?_)
    have hroM : ro ≠ M := fun z => by rw [z, m5.at_] at hro; cases hro
    have hroc : ro ≠ c := fun z => by rw [z, m5.cells] at hro; cases hro
    have hrof : ro ≠ fo := fun z => by rw [z, hfo5] at hro; cases hro
    refine qr_forq (n := w') (Evl.ev_var rfl) (by omega) (fun j σ' H' => ∃ (x8 x9 : Option V) (ys : List V) (row : List Rule) (t2 l2 : Int), σ' = [some (.ref M), some (.int (n : Nat)), some (.int (w' : Nat)), some (.int (e : Nat)), some (.ref fo), some (.int (s : Nat)), some (.int (i : Nat)), some (.ref ro), x8, x9] ∧ ExB M H5 H' ∧ Mill M c cs t2 l2 H' ∧ t2 ≤ t' + ((j * 3 : Nat) : Int) ∧ row.length = j ∧ (∀ p ∈ row, p.1 < e ∧ p.2 < n) ∧ H' ro = some (.lst ys) ∧ DpAll K H' ys (row.map dRule))
      (fun H7 e7 => ⟨_, _, [], [], t', l', rfl, Ex.but (Ex.tr e6 e7), m5.ex (Ex.tr e6 e7), by simp, rfl, by simp, e7 _ _ hro6, .nil⟩) ?_ ?_
    · rintro j σ' H7 hj ⟨x8, x9, ys, row, t2, l2, rfl, b7, m7, ht7, hr1, hr2, hro7, hys7⟩
      have hj3 : j * 3 + 3 ≤ w' * 3 := by omega
      have fin : ∀ (D' : Ends) (la : Nat) (t3 l3 : Int) (H8 : Hp), (∀ σ' H', (∃ (x8 x9 : Option V) (ys : List V) (row : List Rule) (t2 l2 : Int), σ' = [some (.ref M), some (.int (n : Nat)), some (.int (w' : Nat)), some (.int (e : Nat)), some (.ref fo), some (.int (s : Nat)), some (.int (i : Nat)), some (.ref ro), x8, x9] ∧ ExB M H5 H' ∧ Mill M c cs t2 l2 H' ∧ t2 ≤ t' + (((j + 1) * 3 : Nat) : Int) ∧ row.length = j + 1 ∧ (∀ p ∈ row, p.1 < e ∧ p.2 < n) ∧ H' ro = some (.lst ys) ∧ DpAll K H' ys (row.map dRule)) → D'.nx σ' H') →
          la < n → ExB M H7 H8 → Mill M c cs t3 l3 H8 → t3 ≤ t2 + 2 → tDrop (tBM K "list" rAppend (tVar 7) (tCons (tTup (tCons (tCall (SpCog P w K) [] E0 (tCons (tVar 0) (tCons (tVar 3) tNil))) (tCons (tVar 9) tNil))) tNil)) D'
          [some (.ref M), some (.int (n : Nat)), some (.int (w' : Nat)), some (.int (e : Nat)), some (.ref fo), some (.int (s : Nat)), some (.int (i : Nat)), some (.ref ro), some (.int (j : Nat)), some (.int (la : Nat))] H8 := by
        intro D' la t3 l3 H8 hnx hla b8 m8 ht8
        have hro8 := b8 _ _ hroM hro7
        have hys8 := dpa_butM m7 b8 (tup_all tup_rule _) hys7
        refine s_appS hro8 (Evl.ev_var rfl) (fun H9 e9 => cons_K (call_sp (vs := [.ref M, .int (e : Nat)]) (Evl.ea_cons (Evl.ev_var rfl) (Evl.ea_cons (Evl.ev_var rfl) Evl.ea_nil)) (fun H10 e10 => ⟨M, c, cs, t3, l3, e, rfl, (m8.ex e9).ex e10, he1, by omega, by omega, fun k t4 l4 H11 b11 m11 ht11 hk => ?_⟩)))
        refine ⟨.int (la : Nat), rfl, by show 2 ≤ sizeLine; decide, fun p hp => ?_⟩
        have e910 := Ex.tr e9 e10
        have b811 : ExB M H8 H11 := (Ex.but e910).tr b11
        have hro11 := b811 _ _ hroM hro8
        have hys11 := dpa_butM m8 b811 (tup_all tup_rule _) hys8
        have ep : Ex H11 (upd H11 p (.tup [.int (k : Nat), .int (la : Nat)])) := Ex.nw hp
        have hu := ExB.upd ro (upd H11 p (.tup [.int (k : Nat), .int (la : Nat)])) (.lst (ys ++ [.ref p]))
        have hnr := noT_lst (ep _ _ hro11)
        have hyl : ys.length = j := by have := dpa_len hys7; rw [List.length_map, hr1] at this; exact this
        have hroH5 : H5 ro = none := hro
        refine ⟨ro, ys, .ref p, rfl, rfl, ep _ _ hro11, Evl.sz_lt (by omega), hnx _ _ ⟨_, _, ys ++ [.ref p], row ++ [(k, la)], t4, l4, rfl, ((b7.tr (b8.tr b811)).tr (Ex.but ep)).mut hroH5, (m11.ex ep).mut hroM hroc, by omega, by rw [List.length_append, hr1]; rfl, ?_, upd_same, ?_⟩⟩
        · intro q hq
          rcases List.mem_append.mp hq with hq | hq
          · exact hr2 q hq
          · rw [List.mem_singleton.mp hq]
            exact ⟨hk, hla⟩
        · rw [List.map_append]
          exact dpa_snoc (dpa_but (fun _ _ k => sqt_but hu hnr k) _ _ (tup_all tup_rule _) (dpa_ex ep _ _ hys11)) (dp_but (fun _ _ k => sqt_but hu hnr k) (dRule (k, la)) _ rfl (.tup (Evl.st_of upd_same) (.cons (.int _) (.cons (.int _) .nil))))
      refine call_sp (vs := [.ref M, .int (s : Nat)]) (Evl.ea_cons (Evl.ev_var rfl) (Evl.ea_cons (Evl.ev_var rfl) Evl.ea_nil)) (fun H8 e8 => ⟨M, c, cs, t2, l2, s, rfl, m7.ex e8, hs1, by omega, by omega, fun k t3 l3 H9 b9 m9 ht9 hk => ⟨rfl, _, rfl, if_K (fun _ => ?_) (fun _ => ?_)⟩⟩)
      all_goals have b79 : ExB M H7 H9 := (Ex.but e8).tr b9
      · exact ⟨_, rfl, fin _ i t3 l3 H9 (fun _ _ z => z) hi b79 m9 (by omega)⟩
      · refine call_sp (vs := [.ref M, .int (n : Nat)]) (Evl.ea_cons (Evl.ev_var rfl) (Evl.ea_cons (Evl.ev_var rfl) Evl.ea_nil)) (fun H10 e10 => ⟨M, c, cs, t3, l3, n, rfl, m9.ex e10, hn1, by omega, by omega, fun k2 t4 l4 H11 b11 m11 ht11 hk2 => fin _ k2 t4 l4 H11 (fun _ _ z => z) hk2 ((b79.tr (Ex.but e10)).tr b11) m11 (by omega)⟩)
    · rintro σ' H7 ⟨x8, x9, ys, row, t2, l2, rfl, b7, m7, ht7, hr1, hr2, hro7, hys7⟩
      have hfo7 := b7 _ _ hfoM hfo5
      have hvl : vs.length = i := by have := hvs5.len; rwa [List.length_map, hR1] at this
      refine Evl.s_app hfo7 (Evl.ev_var rfl) (Evl.ev_var rfl) (by omega) (fun H8 e8 => ?_)
      have hu := ExB.upd fo H8 (.lst (vs ++ [.ref ro]))
      have hfo8 := e8 _ _ hfo7
      have hvs8 : Alls (R.map (rRow K M fo)) vs H8 := (rRow_buts (.inl rfl) m5.at_ b7 hvs5).up e8
      have hfoH : H fo = none := hfo
      refine ⟨_, _, _, _, vs ++ [.ref ro], R ++ [row], t2, l2, rfl, ((b5.tr b7).tr (Ex.but e8)).mut hfoH, (m7.ex e8).mut hfoM hfoc, ?_, by rw [List.length_append, hR1]; rfl, ?_, upd_same, ?_⟩
      · have : (i + 1) * w' * 3 = i * w' * 3 + w' * 3 := by rw [Nat.succ_mul, Nat.add_mul]
        omega
      · intro q hq
        rcases List.mem_append.mp hq with hq | hq
        · exact hR2 q hq
        · rw [List.mem_singleton.mp hq]
          exact ⟨hr1, hr2⟩
      · rw [List.map_append]
        exact Alls.snoc (rRow_buts (.inr rfl) hfo8 hu hvs8) (r := rRow K M fo row) ⟨ro, ys, rfl, hroM, hrof, hu _ _ hrof (e8 _ _ hro7), dpa_but (fun _ _ k => sqt_but hu (noT_lst hfo8) k) _ _ (tup_all tup_rule _) (dpa_ex e8 _ _ hys7)⟩
  · rintro σ' H5 ⟨x6, x7, x8, x9, vs, R, t', l', rfl, b5, m5, ht5, hR1, hR2, hfo5, hvs5⟩
    exact Evl.s_ret (Evl.ev_var rfl) (fun H6 e6 => hQ R t' l' _ H6 (b5.tr (Ex.but e6)) (m5.ex e6) ht5 ⟨hR1, fun r hr => (hR2 r hr).1, fun r hr p hp => ((hR2 r hr).2 p hp).1, fun r hr p hp => ((hR2 r hr).2 p hp).2⟩ ⟨fo, vs, rfl, hfoM, e6 _ _ hfo5, rRow_lf (hvs5.up e6)⟩)
end Mk
namespace Mk
open PySem PySem.Spec PyProof.Rows L2
theorem begs_eq {S : Rules} {e w : Nat} : (LpOf S e w).begs = begsF S w := rfl
theorem good_of {S : Rules} {e n w : Nat} (h : OkR e n w S) (h1 : 1 ≤ n) (h2 : n ≤ 9) (h3 : 1 ≤ w) (h4 : w ≤ 6) (h5 : 1 ≤ e) (h6 : e ≤ 36) (h7 : n * w ≤ 15) : Good S e w := by
  have hn := h.len
  subst hn
  have H := layH h h3 h1 h5
  obtain ⟨f1, f2⟩ := few h h2 h4 h7
  have sm : Small e S.length w S := { toOkR := h, e1 := h5, e2 := h6, n1 := h1, n2 := by omega, w1 := h3, w2 := h4 }
  refine ⟨sm, ⟨sm, H.nd, H.has, H.lt, H.m1, by show (arrF S).length ≤ 400; omega, fun q hq => ?_, fun s hs q hq => ?_⟩, f1, arrF_zero S, ?_⟩
  · obtain ⟨a, b⟩ := mem_pairsL.mp hq
    exact H.p.paL q.1 q.2 a b
  · obtain ⟨a, b⟩ := mem_pairsL.mp hq
    exact H.p.pcL s q.1 q.2 hs a b
  · rw [begs_eq]
    refine ⟨begF_le, by rw [begsF_len]; exact f1, h3, h4, h5, h6, by rw [layF_len h h3 h1 h5, begsF_len], ?_⟩
    rw [begsF_len]
    exact layF_ok h h3 h1 h5
theorem good_least {R : Rules} {e n w : Nat} (h : OkR e n w R) (h1 : 1 ≤ n) (h2 : n ≤ 9) (h3 : 1 ≤ w) (h4 : w ≤ 6) (h5 : 1 ≤ e) (h6 : e ≤ 36) (h7 : n * w ≤ 15) : Good (leastF R) e w := by
  have hl := leastF_ok h h1
  have hle : (orderF R).length ≤ n := orderF_le h h1
  have hpos : 1 ≤ (orderF R).length := lt_of_get (orderF_zero h)
  refine good_of hl hpos (by omega) h3 h4 h5 h6 (Nat.le_trans (Nat.mul_le_mul_right _ hle) h7)
end Mk
namespace Mk
open PySem PySem.Spec PyProof.Rows L2
section
variable {K : PySem.W.Frag} {σ : L2.St} {H : Hp} {ta tb te : TE} {ds1 ds2 : List PyData}
/-- tuple + tuple -/
theorem gd_catA (ha : GD ta σ H (rD K (.tuple ds1))) (hb : GD tb σ H (rD K (.tuple ds2))) (h1 : ds1 ≠ []) (hz : ds1.length + ds2.length ≤ 100000) : GD (tOp (rCatA K) ta tb) σ H (rD K (.tuple (ds1 ++ ds2))) := fun H1 e1 Q q =>
  ha H1 e1 _ fun x H2 e2 hx => hb H2 (Ex.tr e1 e2) _ fun y H3 e3 hy => by
    obtain ⟨a, xs, rfl, p1, p2⟩ := dp_tup (dp_ex e3 _ _ hx)
    obtain ⟨b, ys, rfl, p3, p4⟩ := dp_tup hy
    have l1 := dpa_len p2
    have l2 := dpa_len p4
    refine ⟨a, b, xs, ys, rfl, rfl, p1, p3, Evl.sz_of (by omega), fun z => ?_, fun _ z => ?_, fun _ _ p hp => ?_⟩
    · subst z
      exact absurd (List.length_eq_zero_iff.mp l1.symm) h1
    · subst z
      have : ds2 = [] := List.length_eq_zero_iff.mp l2.symm
      subst this
      rw [List.append_nil] at q
      exact q _ H3 (Ex.tr e2 e3) (.tup p1 p2)
    · exact q _ _ (Ex.tr e2 (Ex.tr e3 (Ex.nw hp))) (.tup (Evl.st_of upd_same) (dpa_ex (Ex.nw hp) _ _ (dpa_app p2 p4)))
theorem lotsD_at {l : List Nat} {s : Nat} (h : s < l.length) : (l.map fun n => PyData.int (n : Nat))[s]? = some (.int (lt' l s : Nat)) := by
  rw [List.getElem?_map, List.getElem?_eq_getElem h]
  simp [lt', List.getElem?_eq_getElem h]
theorem ints_at {l : List Nat} {s : Nat} (h : s < l.length) : (l.map fun n => V.int (n : Nat))[s]? = some (.int (l.getD s 0 : Nat)) := by
  rw [List.getElem?_map, List.getElem?_eq_getElem h]
  simp [List.getElem?_eq_getElem h]
theorem goes_take {R : Rules} {o : List Nat} {r : List Rule} {j : Nat} {p : Rule} (h : r[j]? = some p) : goes R o (r.take (j + 1)) = addU (goes R o (r.take j)) (lt' (lotsF R) p.2) := by
  unfold goes
  rw [List.take_succ, h, List.foldl_append]
  rfl
theorem goes_len {R : Rules} {o : List Nat} {r : List Rule} : (goes R o r).length ≤ o.length + r.length := by
  rw [goes_eq]
  have := foldU_len (r.map fun p => lt' (lotsF R) p.2) o
  rwa [List.length_map] at this
theorem inV_nats {x : Nat} {l : List Nat} : inV (.int (x : Nat)) (l.map fun n => V.int (n : Nat)) = decide (x ∈ l) := by
  have := inV_ints (x := (x : Int)) (l := l.map fun n => ((n : Nat) : Int))
  rw [List.map_map] at this
  rw [show (l.map fun n => V.int (n : Nat)) = l.map (V.int ∘ fun n => ((n : Nat) : Int)) from rfl, this]
  rw [decide_eq_decide]
  constructor
  · intro h
    obtain ⟨q, hq, e⟩ := List.mem_map.mp h
    exact Int.ofNat_inj.mp e ▸ hq
  · intro h
    exact List.mem_map.mpr ⟨x, h, rfl⟩
theorem flat_nats (l : List Nat) : (l.map fun n => V.int (n : Nat)).all flatV = true := by
  have := flat_ints (l.map fun n => ((n : Nat) : Int))
  rwa [List.map_map] at this
end
/-- a new list, stored as one that is known -/
theorem gl_to_lm {K : PySem.W.Frag} {σ : L2.St} {H : Hp} {te : TE} {ds : List PyData} {D : Ends} {i : Nat} (h : GL te σ H (ds.map (rD K))) (k : ∀ v H1, Ex H H1 → (rLm K ds).on v H1 → D.nx (σ.set i (some v)) H1) : tAsg te (gName i) D σ H :=
  h H Ex.rfl' _ fun p xs H2 hp e2 h2 hx => k _ H2 e2 ⟨p, xs, rfl, h2, hx.data⟩
theorem OkR.arr_pos {e n w : Nat} {S : Rules} (h : OkR e n w S) : 1 ≤ (arrF S).length := by
  have h0 := arrF_zero S
  obtain ⟨q, hq, _⟩ := List.mem_map.mp h0
  exact List.length_pos_of_mem hq
theorem chg_filter {k : Nat} {m : List Rule} (u : List (Nat × Nat)) : (m.filter fun p => decide (p.2 ≠ k) && decide (¬ (p.2, p.1) ∈ u)).map (fun p : Rule => (p.2, p.1)) = (chgRow k m).filter fun x => decide (x ∉ u) := by
  unfold chgRow
  rw [List.filter_map, List.filter_filter]
  congr 1
  refine List.filter_congr fun p _ => ?_
  rw [Bool.and_comm]
  rfl
end Mk
namespace Mk
open PySem PySem.Spec PyProof.Rows L2

/-! ### _law_least -/
abbrev N_law_least : List Str := ["_law_rules_here", "_law_lots", "_law_turn", "_law_rows", "_law_at", "_law_each", "_law_out", "_law_later", "_law_kinds", "_law_row", "_law_order", "_law_lot"]
theorem sc_law_least : FnScope N_law_least ["_law_rules_here"] (defScope s_law_least) := ⟨rfl, rfl, rfl, by decide +kernel, rfl, by decide +kernel, by decide +kernel⟩
inductive rel_law_least (K : PySem.W.Frag) : List Rel → Rel → Prop
  | mk (R : Rules) (e n w : Nat) (ok : Small e n w R) : rel_law_least K [rD K (dRulesL R)] (rD K (dRulesL (leastF R)))
theorem ok_law_least {P : Program} {w : World} {K : PySem.W.Frag} {mg : Str → Option Value} {base : Heap} (T : Txt K mg) : Cal P w K mg base "_law_least" 1 ["_law_rules_here"] [] (SpR (rel_law_least K)) := by
  refine cal_of (st := s_law_least) T.g__law_least (T.d.def_ 27 rfl) (fun _ _ _ _ _ _ us hl => match us, hl with | [_], _ => rfl) sc_law_least (fun vs H Q E hsp => by obtain ⟨rs, r, h, ha, _⟩ := hsp; rw [ha.len]; cases h <;> rfl) fun cdv A outer s H vs Q E hr hsp => ?_
  have hu := hr.units
  have hu0 := hu_of hr
  have hu65 := hu65_of hr
  refine ⟨_, (pss_cons (ps_set (i := 1) sc_law_least.nd rfl (Or.inr rfl) (pe_op op_rep (pe_lst (pa_cons pe_int pa_nil)) (pe_callB (id := "len") call_len_seq (by rfl) T.f_len PySem.boot_len (pa_cons (pv 0) pa_nil))))
      (pss_cons (ps_for PassesOwn.never rfl (pi_range1 rfl T.f_range (pa_cons (pe_callB (id := "len") call_len_seq (by rfl) T.f_len PySem.boot_len (pa_cons (pv 0) pa_nil)) pa_nil)) (pg_name (i := 2) sc_law_least.nd rfl (Or.inl rfl))
      (pss_cons (ps_setLc (i := 3) rfl sc_law_least.nd rfl rfl (sw_true rfl rfl rfl (by decide +kernel)) (pi_enum rfl T.f_enumerate (pa_cons (pv 0) pa_nil)) (blkOk_by (own := [("_law_at", 4), ("_law_each", 5)]) rfl) (fun _ _ _ _ _ => (show PG _ _ (gTup K 2 _) from (pg_tup rfl (pgs_cons (pg_name (i := 4) sc_law_least.nd rfl (Or.inl rfl)) (pgs_cons (pg_name (i := 5) sc_law_least.nd rfl (Or.inl rfl)) pgs_nil))))) (fun _ _ _ _ _ => pts_nil) (fun _ _ _ _ _ => (show PE _ _ (tOp (rCatA K) _ _) from (pe_op op_catA (pe_tup (pa_cons (show PE _ _ (tOp (rIxL K) _ _) from (pe_ix ix_list (pv 1) (pv 4) (fun _ _ => rfl))) pa_nil)) (show PE _ _ (tCB (rTupS K) _) from (pe_callTy (T := "tuple") call_tuple_of (by rfl) T.f_tuple (by decide +kernel) (pa_cons (pe_lc rfl sc_law_least.nd (show PI _ _ _ (iList K _) from (pi_list (pv 5))) (blkOk_by (own := [("_law_out", 6), ("_law_later", 7)]) rfl) (fun _ _ _ _ _ => (show PG _ _ (gTup K 2 _) from (pg_tup rfl (pgs_cons (pg_name (i := 6) sc_law_least.nd rfl (Or.inl rfl)) (pgs_cons (pg_name (i := 7) sc_law_least.nd rfl (Or.inl rfl)) pgs_nil))))) (fun _ _ _ _ _ => pts_nil) (fun _ _ _ _ _ => (pe_tup (pa_cons (pv 6) (pa_cons (show PE _ _ (tOp (rIxL K) _ _) from (pe_ix ix_list (pv 1) (pv 7) (fun _ _ => rfl))) pa_nil))))) pa_nil)))))))
      (pss_cons (ps_set (i := 8) sc_law_least.nd rfl (Or.inr rfl) pe_nnew)
      (pss_cons (ps_for PassesOwn.never rfl (pi_list (pv 3)) (pg_name (i := 9) sc_law_least.nd rfl (Or.inl rfl))
      (pss_one (ps_nput hu (pv 8) (pv 9) (pe_nget2 hu (pv 8) (pv 9) (pe_callB (id := "len") call_lenN (by rfl) T.f_len (by decide +kernel) (pa_cons (pv 8) pa_nil)) ⟨rfl, rfl, rfl, rfl⟩) rfl)))
      (pss_one (ps_set (i := 1) sc_law_least.nd rfl (Or.inr rfl) (pe_lc rfl sc_law_least.nd (pi_list (pv 3)) (blkOk_by (own := [("_law_row", 9)]) rfl) (fun _ _ _ _ _ => (pg_name (i := 9) sc_law_least.nd rfl (Or.inl rfl))) (fun _ _ _ _ _ => pts_nil) (fun _ _ _ _ _ => (show PE _ _ (tNGet P w K _ _) from (pe_nget hu (pv 8) (pv 9) (fun _ _ => rfl)))))))))))
      (pss_cons (ps_set (i := 10) sc_law_least.nd rfl (Or.inr rfl) (pe_lst (pa_cons (pe_ix ix_list (pv 1) pe_int (fun _ _ => rfl)) pa_nil)))
      (pss_cons (ps_for PassesOwn.never rfl (pi_range1 rfl T.f_range (pa_cons (pe_callB (id := "len") call_len_seq (by rfl) T.f_len PySem.boot_len (pa_cons (pv 0) pa_nil)) pa_nil)) (pg_name (i := 2) sc_law_least.nd rfl (Or.inl rfl))
      (pss_one (ps_if (pt_cmpR op_lt (pv 2) (pe_callB (id := "len") call_len_seq (by rfl) T.f_len PySem.boot_len (pa_cons (pv 10) pa_nil)) (nomark _)) (pss_one (ps_for PassesOwn.never rfl (pi_list (pe_ix ix_list (pv 0) (pe_bm PySem.F.plainAttrs_list PySem.F.slot_list_index PySem.F.type_list_index mt_index (pv 1) (pa_cons (pe_ix ix_list (pv 10) (pv 2) (fun _ _ => rfl)) pa_nil)) (fun _ _ => rfl))) (pg_tup rfl (pgs_cons (pg_name (i := 6) sc_law_least.nd rfl (Or.inl rfl)) (pgs_cons (pg_name (i := 7) sc_law_least.nd rfl (Or.inl rfl)) pgs_nil)))
      (pss_one (ps_if (pt_cmpR op_notIn_seq (pe_ix ix_list (pv 1) (pv 7) (fun _ _ => rfl)) (pv 10) (by rfl)) (pss_one (ps_expr (pe_bm PySem.F.plainAttrs_list PySem.F.slot_list_append PySem.F.type_list_append mt_append (pv 10) (pa_cons (pe_ix ix_list (pv 1) (pv 7) (fun _ _ => rfl)) pa_nil)))) pss_nil)))) pss_nil)))
      (pss_one (ps_ret (pe_lc rfl sc_law_least.nd (pi_list (pv 10)) (blkOk_by (own := [("_law_lot", 11)]) rfl) (fun _ _ _ _ _ => (pg_name (i := 11) sc_law_least.nd rfl (Or.inl rfl))) (fun _ _ _ _ _ => pts_nil) (fun _ _ _ _ _ => (pe_lc rfl sc_law_least.nd (show PI _ _ _ (iList K _) from (pi_list (show PE _ _ (tOp (rIxL K) _ _) from (pe_ix ix_list (pv 0) (show PE _ _ (tBM K "list" (rIndex K) _ _) from (pe_bm PySem.F.plainAttrs_list PySem.F.slot_list_index PySem.F.type_list_index mt_index (pv 1) (pa_cons (pv 11) pa_nil))) (fun _ _ => rfl))))) (blkOk_by (own := [("_law_out", 6), ("_law_later", 7)]) rfl) (fun _ _ _ _ _ => (show PG _ _ (gTup K 2 _) from (pg_tup rfl (pgs_cons (pg_name (i := 6) sc_law_least.nd rfl (Or.inl rfl)) (pgs_cons (pg_name (i := 7) sc_law_least.nd rfl (Or.inl rfl)) pgs_nil))))) (fun _ _ _ _ _ => pts_nil) (fun _ _ _ _ _ => (pe_tup (pa_cons (pv 6) (pa_cons (show PE _ _ (tBM K "list" (rIndex K) _ _) from (pe_bm PySem.F.plainAttrs_list PySem.F.slot_list_index PySem.F.type_list_index mt_index (pv 10) (pa_cons (show PE _ _ (tOp (rIxL K) _ _) from (pe_ix ix_list (pv 1) (pv 7) (fun _ _ => rfl))) pa_nil))) pa_nil))))))))))))), ?_⟩

  obtain ⟨rs, r, h, ha, hQ⟩ := hsp
  cases h with
  | mk R e n w' ok =>
    obtain ⟨v0, rfl, h0⟩ := alls1 ha
    have hn0 : 0 < n := ok.n1
    have hn3 : n ≤ 300 := ok.n2
    have hRn : R.length = n := ok.len
    have hlen : ∀ (σ : L2.St) H', σ[0]? = some (some v0) → Ex H H' → Evl.Ev (tCB (fun xs H Q => ∃ p ys, xs = [.ref p] ∧ (SqL K H p ys ∨ SqT K H p ys) ∧ Q (.int ys.length) H) (tCons (tVar 0) tNil)) σ H' (.int (R.length : Nat)) := fun σ H' hi e => Evl.ev_is (ev_lenS (gd_v hi (dp_ex e _ _ h0)) (.inl rfl)) (by rw [List.length_map])
    refine g_asg (r := rD K (lotsD (lotsAt R 0))) (gd_to (gd_rep (n := R.length) (hlen _ _ rfl Ex.rfl') (by omega)) (fun v H2 _ q => by
      show Dp K H2 v (.list ((List.replicate R.length 0).map fun n => .int (n : Nat)))
      rw [List.map_replicate]
      exact q)) (fun v H1 e1 hv => ?_)
    refine qr_forq (n := R.length) (hlen _ _ rfl e1) (by omega) (fun k σ' H' => ∃ v x2 x3 x4 x5 x6 x7 x8 x9, σ' = [some v0, some v, x2, x3, x4, x5, x6, x7, x8, x9, none, none] ∧ Ex H H' ∧ Dp K H' v (lotsD (lotsAt R k))) (fun H2 e2 => ⟨_, _, _, _, _, _, _, _, _, rfl, Ex.tr e1 e2, dp_ex e2 _ _ hv⟩) ?_ ?_
    · rintro k σ' H2 hk ⟨v, x2, x3, x4, x5, x6, x7, x8, x9, rfl, e2, hv⟩
      have hLl : (lotsAt R k).length = n := by rw [lotsAt_len, hRn]
      have hrl : (rowsOf R (lotsAt R k)).length = n := by
        unfold rowsOf
        rw [List.length_map, List.length_range, hRn]
      refine g_asg (r := rD K (.list ((rowsOf R (lotsAt R k)).map dRow))) (gd_to (gd_lst' (ms := R.zipIdx) (f := fun m => dRow (lt' (lotsAt R k) m.2, tr (lotsAt R k) m.1)) (gd_lcPM (fun m : List Rule × Nat => rD K (dRow (lt' (lotsAt R k) m.2, tr (lotsAt R k) m.1))) (gi_enum (ms := R) (f := dRowL) (gd_v (i := 0) rfl (dp_ex e2 _ _ h0))) (by rw [List.length_zipIdx]; omega) (fun m => but_D (tup_row _)) (by exact fun _ _ => rfl) (fun m hm x y H4 e4 hx hy => ?_))) (fun u H4 _ q => ?_)) (fun u H4 e4 hu4 => ?_)
      · have hm2 : m.2 < n := by
          have := List.mem_zipIdx' hm
          rw [← hRn]
          exact this.1
        have hm1 : m.1 ∈ R := by
          have := List.mem_zipIdx' hm
          rw [this.2]
          exact List.getElem_mem _
        obtain rfl := dp_int hx
        have hv4 := dp_ex e4 _ _ hv
        refine gd_to (gd_catA (ds1 := [.int (lt' (lotsAt R k) m.2 : Nat)]) (ds2 := (tr (lotsAt R k) m.1).map dRule) (gd_tup (ds := [.int (lt' (lotsAt R k) m.2 : Nat)]) (ga_1 (gd_ixL (gd_v (i := 1) rfl hv4) (Evl.ev_var rfl) (atI_nat (lotsD_at (by rw [hLl]; exact hm2))))) (by simp)) (gd_tupOf (d := .list ((tr (lotsAt R k) m.1).map dRule)) ?_ (.inl rfl)) (by simp) (by
          unfold tr
          rw [List.length_map, List.length_map, ok.row _ hm1]
          have := ok.w2
          simp
          omega)) (fun _ _ _ q => q)
        unfold tr
        rw [List.map_map]
        refine gd_lst' (f := dRule ∘ fun p : Rule => (p.1, lt' (lotsAt R k) p.2)) (gd_lcPM (d1 := fun p : Rule => .int (p.1 : Nat)) (d2 := fun p : Rule => .int (p.2 : Nat)) (fun p : Rule => rD K (dRule (p.1, lt' (lotsAt R k) p.2))) (gi_list (f := dRule) (gd_v (i := 5) rfl hy)) (by rw [ok.row _ hm1]; have := ok.w2; omega) (fun p => but_D (tup_rule _)) (by exact fun _ _ => rfl) (fun p hp x' y' H5 e5 hx' hy' => ?_))
        obtain rfl := dp_int hy'
        exact gd_tup (ds := [.int (p.1 : Nat), .int (lt' (lotsAt R k) p.2 : Nat)]) (ga_cons (gd_v rfl hx') (ga_1 (gd_ixL (gd_v (i := 1) rfl (dp_ex (Ex.tr e4 e5) _ _ hv)) (Evl.ev_var rfl) (atI_nat (lotsD_at (by rw [hLl]; exact ok.nxt _ hm1 _ hp)))))) (by simp)
      · show Dp K H4 u _
        unfold rowsOf
        rw [List.map_map]
        rw [zipIdx_rows] at q
        exact q
      have hrows : (List.map dRow (rowsOf R (lotsAt R k))) = ((rowsOf R (lotsAt R k)).map rowK).map kd := by
        rw [List.map_map]
        exact List.map_congr_left fun p _ => (kd_row p).symm
      have hnum : numb ((rowsOf R (lotsAt R k)).map rowK) = lotsAt R (k + 1) := numb_map_inj rowK (fun a _ b _ h => rowK_inj h)
      obtain ⟨ks, hks⟩ : ∃ ks, ks = (rowsOf R (lotsAt R k)).map rowK := ⟨_, rfl⟩
      have hksl : ks.length = n := by rw [hks, List.length_map, hrl]
      have hkk : ∀ q ∈ ks, q.depth ≤ 8 ∧ ∃ l, q = .tup l := fun q hq => by
        rw [hks] at hq
        obtain ⟨p, _, rfl⟩ := List.mem_map.mp hq
        exact ⟨row_depth p, _, rfl⟩
      rw [hrows, ← hks] at hu4
      rw [← hks] at hnum
      refine fun d hd o hnd => ?_
      have e5 : Ex H4 (upd H4 d o) := Ex.nw hd
      refine wq_for (B := H4) (ms := ks) (e := fun k => rD K (kd k)) (gw_list (v := u) (Evl.ev_var rfl) hu4) e5 (fun i σ' H' => ∃ x9, σ' = [some v0, some v, some (.int (k : Nat)), some u, x4, x5, x6, x7, some (.ref d), x9, none, none] ∧ Ex H4 H' ∧ ND P w K H' d (numK (uniq (ks.take i)))) (fun H5 e6 => ⟨_, rfl, Ex.tr e5 e6, hnd.ex e6⟩) (fun i σ' H' z => by obtain ⟨_, _, z, _⟩ := z; exact z) ?_ ?_
      · rintro i m x σ' H5 hm ⟨x9, rfl, e6, nd⟩ hx
        have hmem := List.mem_of_getElem? hm
        obtain ⟨h8, l, rfl⟩ := hkk m hmem
        obtain ⟨a, xs, rfl, hs, hall⟩ := dp_tup (show Dp K H4 x (.tuple (kds l)) from hx)
        have nk : NK K H5 (.tup l) a := ⟨h8, dp_ex e6 _ _ hx⟩
        have hU : (uniq (ks.take i)).length ≤ n := by
          have := uniq_len (ks.take i)
          rw [List.length_take] at this
          omega
        refine s_nput (ev_nget2 (Evl.ev_var rfl) (Evl.ev_var rfl) (ev_lenNd (Evl.ev_var rfl) nd) nd nk) (Evl.ev_var rfl) (Evl.ev_var rfl) nd nk (by rw [numK_len]; omega) (fun H6 o6 e7 nd6 => ⟨_, rfl, Evl.Ex.mut (Ex.tr e6 e7) hd, ?_⟩)
        rw [uniq_take_succ hm, ← putK_get (nd_uniq _)]
        exact nd6
      · rintro σ' H5 ⟨x9, rfl, e6, nd⟩
        rw [List.take_length] at nd
        refine g_asg' (r := rD K (lotsD (ks.map fun q => ixU ks q))) (gl_ints (gl_lcM (fun q => rV (.int (ixU ks q : Nat))) (gi_list (ms := ks) (f := kd) (gd_v (i := 3) rfl (dp_ex e6 _ _ hu4))) (by omega) (fun _ => but_V) (by exact fun _ => rfl) (fun m hm x H6 e7 hx => ?_))) (fun v' H6 e7 hv' => ⟨v', _, _, _, _, _, _, _, _, rfl, Ex.tr e2 (Ex.tr e4 (Ex.tr e6 e7)), by
          rw [← hnum]
          exact hv'⟩)
        obtain ⟨h8, l, rfl⟩ := hkk m hm
        obtain ⟨a, xs, rfl, hs, hall⟩ := dp_tup (show Dp K H6 x (.tuple (kds l)) from hx)
        exact gd_ev (r := rV (.int (ixU ks (.tup l) : Nat))) (ev_nget (Evl.ev_var rfl) (Evl.ev_var rfl) (nd.ex e7) ⟨h8, hx⟩ (by rw [valV_numK, if_pos (mem_uniq.mpr hm)])) rfl
    · rintro σ' B ⟨v, x2, x3, x4, x5, x6, x7, x8, x9, rfl, eB, hv⟩
      have hv : Dp K B v (lotsD (lotsF R)) := hv
      have hLl : (lotsF R).length = n := by rw [lotsF_len, hRn]
      have h0B := dp_ex eB _ _ h0
      obtain ⟨ar, xr, rfl, hr1, hr2⟩ := dp_lst (show Dp K B v0 (.list (R.map dRowL)) from h0B)
      have hRow : ∀ s, s < n → ∃ u, xr[s]? = some u ∧ Dp K B u (dRowL (rowAt R s)) := fun s hs => by
        refine dpa_get hr2 ?_
        rw [List.getElem?_map]
        have : s < R.length := by rw [hRn]; exact hs
        simp [rowAt, List.getElem?_eq_getElem this]
      have evl : ∀ (σ : L2.St) (H' : Hp) (i s : Nat), σ[1]? = some (some v) → σ[i]? = some (some (.int (s : Nat))) → Ex B H' → s < n → Evl.Ev (tOp (rIxL K) (tVar 1) (tVar i)) σ H' (.int (lt' (lotsF R) s : Nat)) := fun σ H' i s h1 hi e hs => gd_int (K := K) (gd_ixL (gd_v (i := 1) h1 (dp_ex e _ _ hv)) (Evl.ev_var hi) (atI_nat (lotsD_at (by rw [hLl]; exact hs))))
      have hLe : ∀ s, s < n → lt' (lotsF R) s ∈ lotsF R := fun s hs => by
        unfold lt'
        rw [List.getD_eq_getElem?_getD, List.getElem?_eq_getElem (by rw [hLl]; exact hs)]
        exact List.getElem_mem _
      refine Evl.q_asgL (Evl.el_lst (vs := [.int (lt' (lotsF R) 0 : Nat)]) (Evl.ea_cons (gd_int (K := K) (gd_ixL (gd_v (i := 1) rfl hv) Evl.ev_c (atI_nat (j := 0) (lotsD_at (by omega))))) Evl.ea_nil) (by simp)) (fun l H1 hl e1 hl1 => ?_)
      refine qr_forq (n := R.length) (hlen _ _ rfl (Ex.tr eB e1)) (by omega) (fun k σ' H' => ∃ x2 x6 x7, σ' = [some (.ref ar), some v, x2, x3, x4, x5, x6, x7, x8, x9, some (.ref l), none] ∧ Ex B H' ∧ H' l = some (.lst ((orderAt R k).map fun n => .int (n : Nat)))) (fun H2 e2 => ⟨_, _, _, rfl, Ex.tr e1 e2, e2 _ _ hl1⟩) ?_ ?_
      · rintro k σ' H2 hk ⟨x2, x6, x7, rfl, e2, hl2⟩
        obtain ⟨on, ol⟩ := orderAt_ok ok.toOkR hn0 k
        have oll := orderAt_le ok.toOkR hn0 k
        refine Evl.s_when (b := decide (k < (orderAt R k).length)) (Evl.et_B (Evl.ev_is (Evl.ev_op (Evl.ev_var rfl) (ev_lenS (K := K) (d := lotsD (orderAt R k)) (gd_v (i := 10) rfl (ints_but (H' := H2) hl2)) (.inl rfl)) Evl.rv_I0) (by rw [List.length_map, dec_lt_nat]))) (fun hb H3 e3 => ?_) (fun hb H3 e3 => ?_)
        · have hko : k < (orderAt R k).length := of_decide_eq_true hb
          have hox : (orderAt R k).getD k 0 ∈ orderAt R k := by
            rw [List.getD_eq_getElem?_getD, List.getElem?_eq_getElem hko]
            exact List.getElem_mem _
          obtain ⟨s0, hs0, hs0e⟩ := ol _ hox
          have hin : (orderAt R k).getD k 0 ∈ lotsF R := by rw [← hs0e]; exact hLe s0 hs0
          have hix : (lotsF R).idxOf ((orderAt R k).getD k 0) < n := by rw [← hLl]; exact List.idxOf_lt_length_of_mem hin
          obtain ⟨u, hu1, hu2⟩ := hRow _ hix
          have ev_u : Evl.Ev (tOp (rIxL K) (tVar 0) (tBM K "list" (rIndex K) (tVar 1) (tCons (tOp (rIxL K) (tVar 10) (tVar 2)) tNil))) [some (.ref ar), some v, some (.int (k : Nat)), x3, x4, x5, x6, x7, x8, x9, some (.ref l), none] H3 u :=
            Evl.ev_op (Evl.ev_var rfl) (ev_index (gd_v (i := 1) (r := rD K (lotsD (lotsF R))) rfl (dp_ex (Ex.tr e2 e3) _ _ hv)) (Evl.ev_op (Evl.ev_var rfl) (Evl.ev_var rfl) (Evl.rv_ixL (Evl.sq_of (e3 _ _ hl2)) (atI_nat (ints_at hko)))) hin) (Evl.rv_ixL (sql_ex (Ex.tr e2 e3) hr1) (atI_nat hu1))
          have rl : (repAt R ((orderAt R k).getD k 0)).length = w' := ok.rowLen hix
          refine c_for (B := B) (ms := repAt R ((orderAt R k).getD k 0)) (e := fun p => rD K (dRule p)) (gc_list ev_u (Ex.tr e2 e3) hu2) (fun i σ' H' => ∃ x6 x7, σ' = [some (.ref ar), some v, some (.int (k : Nat)), x3, x4, x5, x6, x7, x8, x9, some (.ref l), none] ∧ Ex B H' ∧ H' l = some (.lst ((goes R (orderAt R k) ((repAt R ((orderAt R k).getD k 0)).take i)).map fun n => .int (n : Nat))))
            (fun H4 e4 => ⟨_, _, rfl, Ex.tr e2 (Ex.tr e3 e4), e4 _ _ (e3 _ _ hl2)⟩) (fun i σ' H' z => by obtain ⟨_, _, _, z, _⟩ := z; exact z) ?_ ?_
          · rintro i p x σ' H4 hp ⟨x6, x7, rfl, e4, hl4⟩ hx
            refine gtup2 (dp_ex e4 _ _ hx) fun y1 y2 hy1 hy2 => ?_
            obtain rfl := dp_int hy2
            have hp2 : p.2 < n := ok.nxtAt (List.mem_of_getElem? hp)
            have hgl : (goes R (orderAt R k) ((repAt R ((orderAt R k).getD k 0)).take i)).length ≤ n + w' := by
              have := goes_len (R := R) (o := orderAt R k) (r := (repAt R ((orderAt R k).getD k 0)).take i)
              rw [List.length_take] at this
              omega
            have hw6 := ok.w2
            refine Evl.s_when (b := !decide (lt' (lotsF R) p.2 ∈ goes R (orderAt R k) ((repAt R ((orderAt R k).getD k 0)).take i))) (Evl.et_B (Evl.ev_is (Evl.ev_op (evl _ H4 7 p.2 rfl rfl e4 hp2) (Evl.ev_var rfl) (Evl.rv_niL (Evl.sq_of hl4) rfl (flat_nats _))) (by rw [inV_nats]))) (fun hb H5 e5 => ?_) (fun hb H5 e5 => ?_)
            · have hni : ¬ lt' (lotsF R) p.2 ∈ goes R (orderAt R k) ((repAt R ((orderAt R k).getD k 0)).take i) := by simpa using hb
              refine Evl.s_app (e5 _ _ hl4) (Evl.ev_var rfl) (evl _ H5 7 p.2 rfl rfl (Ex.tr e4 e5) hp2) (by rw [List.length_map]; omega) (fun H6 e6 => ⟨_, _, rfl, Evl.Ex.mut (Ex.tr e4 (Ex.tr e5 e6)) hl, ?_⟩)
              rw [upd_same, goes_take hp, addU_out hni, List.map_append]
              rfl
            · have hni : lt' (lotsF R) p.2 ∈ goes R (orderAt R k) ((repAt R ((orderAt R k).getD k 0)).take i) := by simpa using hb
              refine ⟨_, _, rfl, Ex.tr e4 e5, ?_⟩
              rw [goes_take hp, addU_in hni]
              exact e5 _ _ hl4
          · rintro σ' H4 ⟨x6, x7, rfl, e4, hl4⟩
            rw [List.take_length] at hl4
            refine ⟨_, _, _, rfl, e4, ?_⟩
            rw [orderAt_succ]
            unfold orderStep
            rw [if_pos hko]
            exact hl4
        · have hko : ¬ k < (orderAt R k).length := of_decide_eq_false hb
          refine ⟨_, _, _, rfl, Ex.tr e2 e3, ?_⟩
          rw [orderAt_succ]
          unfold orderStep
          rw [if_neg hko]
          exact e3 _ _ hl2
      · rintro σ' H2 ⟨x2, x6, x7, rfl, e2, hl2⟩
        have hl2 : H2 l = some (.lst ((orderF R).map fun n => .int (n : Nat))) := hl2
        have oll : (orderF R).length ≤ n := orderF_le ok.toOkR hn0
        refine g_ret (r := rD K (dRulesL (leastF R))) ?_ (fun v3 H3 e3 hv3 => hQ _ _ (Ex.tr eB (Ex.tr e2 e3)) hv3)
        have hds : dRulesL (leastF R) = .list ((orderF R).map fun lot => PyData.list ((leastRow R (repAt R lot)).map dRule)) := by
          show PyData.list ((leastF R).map dRowL) = _
          unfold leastF
          rw [List.map_map]
          rfl
        rw [hds]
        refine gd_lcFN (fun lot => (leastRow R (repAt R lot)).map dRule) (gi_list (ms := orderF R) (f := fun n => .int (n : Nat)) (gd_v (i := 10) rfl (ints_but (H' := H2) hl2))) (by omega) (fun s => tup_all tup_rule _) (fun _ => rfl) (fun lot hlot x H3 e3 hx => ?_)
        obtain rfl := dp_int hx
        obtain ⟨s0, hs0, hs0e⟩ := orderF_mem ok.toOkR hn0 hlot
        have hin : lot ∈ lotsF R := by rw [← hs0e]; exact hLe s0 hs0
        have hix : (lotsF R).idxOf lot < n := by rw [← hLl]; exact List.idxOf_lt_length_of_mem hin
        have hRl : (R.map dRowL)[(lotsF R).idxOf lot]? = some (dRowL (repAt R lot)) := by
          rw [List.getElem?_map]
          have : (lotsF R).idxOf lot < R.length := by rw [hRn]; exact hix
          simp [repAt, rowAt, List.getElem?_eq_getElem this]
        unfold leastRow
        rw [List.map_map, List.map_map]
        refine gl_lcPM (d1 := fun p : Rule => .int (p.1 : Nat)) (d2 := fun p : Rule => .int (p.2 : Nat)) (fun p : Rule => rD K (dRule (p.1, (orderF R).idxOf (lt' (lotsF R) p.2)))) (gi_list (f := dRule) (gd_ixL (gd_v (i := 0) (r := rD K (dRulesL R)) rfl (dp_ex (Ex.tr e2 e3) _ _ h0B)) (ev_index (gd_v (i := 1) (r := rD K (lotsD (lotsF R))) rfl (dp_ex (Ex.tr e2 e3) _ _ hv)) (Evl.ev_var rfl) hin) (atI_nat hRl))) (by rw [show (repAt R lot).length = w' from ok.rowLen hix]; have := ok.w2; omega) (fun p => but_D (tup_rule _)) (by exact fun _ _ => rfl) (fun p hp x' y' H4 e4 hx' hy' => ?_)
        obtain rfl := dp_int hy'
        exact gd_tup (ds := [.int (p.1 : Nat), .int ((orderF R).idxOf (lt' (lotsF R) p.2) : Nat)]) (ga_cons (gd_v rfl hx') (ga_int (ev_index (gd_v (i := 10) (r := rD K (lotsD (orderF R))) rfl ((rD K (lotsD (orderF R))).up (Ex.tr e3 e4) (ints_but (H' := H2) hl2))) (evl _ H4 7 p.2 rfl rfl (Ex.tr e2 (Ex.tr e3 e4)) (ok.nxtAt hp)) (orderF_closed ok.toOkR hn0 hlot hp)) ga_nil)) (by simp)
/-! ### _law_bound -/
abbrev N_law_bound : List Str := ["_law_rules_here", "_law_found", "_law_standing", "_law_each", "_law_out", "_law_later", "_law_at", "_law_pair", "_law_many", "_law_ways"]
theorem sc_law_bound : FnScope N_law_bound ["_law_rules_here"] (defScope s_law_bound) := ⟨rfl, rfl, rfl, by decide +kernel, rfl, by decide +kernel, by decide +kernel⟩
inductive rel_law_bound (K : PySem.W.Frag) : List Rel → Rel → Prop
  | mk (S : Rules) (e n w : Nat) (ok : Small e n w S) : rel_law_bound K [rD K (dRulesL S)] (rV (.int (piecesF n w (arrF S).length : Nat)))
theorem bnd_le {S : Rules} {e n w k : Nat} (ok : OkR e n w S) (hk : k ≤ n) : (bndTo S k).length ≤ n * w := by
  have h1 := uniq_len ((List.range k).flatMap fun s => chgRow s (rowAt S s))
  have h2 := chgTo_len ok k hk
  have h3 : k * w ≤ n * w := Nat.mul_le_mul_right _ hk
  unfold chgTo at h2
  unfold bndTo
  omega
theorem ok_law_bound {P : Program} {w : World} {K : PySem.W.Frag} {mg : Str → Option Value} {base : Heap} (T : Txt K mg) : Cal P w K mg base "_law_bound" 1 ["_law_rules_here"] [] (SpR (rel_law_bound K)) := by
  refine cal_of (st := s_law_bound) T.g__law_bound (T.d.def_ 28 rfl) (fun _ _ _ _ _ _ us hl => match us, hl with | [_], _ => rfl) sc_law_bound (fun vs H Q E hsp => by obtain ⟨rs, r, h, ha, _⟩ := hsp; rw [ha.len]; cases h <;> rfl) fun cdv A outer s H vs Q E hr hsp => ?_
  have hu := hr.units
  have hu0 := hu_of hr
  have hu65 := hu65_of hr
  refine ⟨_, (pss_cons (ps_set (i := 1) sc_law_bound.nd rfl (Or.inr rfl) (pe_lst pa_nil))
      (pss_cons (ps_for PassesOwn.never rfl (pi_enum rfl T.f_enumerate (pa_cons (pv 0) pa_nil)) (pg_tup rfl (pgs_cons (pg_name (i := 2) sc_law_bound.nd rfl (Or.inr rfl)) (pgs_cons (pg_name (i := 3) sc_law_bound.nd rfl (Or.inl rfl)) pgs_nil)))
      (pss_cons (ps_set (i := 1) sc_law_bound.nd rfl (Or.inr rfl) (pe_op op_cat (pv 1) (pe_lc rfl sc_law_bound.nd (pi_list (pv 3)) (blkOk_by (own := [("_law_out", 4), ("_law_later", 5)]) rfl) (fun _ _ _ _ _ => (show PG _ _ (gTup K 2 _) from (pg_tup rfl (pgs_cons (pg_name (i := 4) sc_law_bound.nd rfl (Or.inl rfl)) (pgs_cons (pg_name (i := 5) sc_law_bound.nd rfl (Or.inl rfl)) pgs_nil))))) (fun _ _ _ _ _ => (pts_one (PW.pt (pw_and (pt_cmpR op_ne (pv 5) (pv 2) (nomark _)) (pw_and1 (show PT _ _ (tB (tOp (rNotInD K) _ _)) from (pt_cmpR (op_notInD hu65) (pe_tup (pa_cons (pv 5) (pa_cons (pv 4) pa_nil))) (pv 1) (by rfl)))))))) (fun _ _ _ _ _ => (pe_tup (pa_cons (pv 5) (pa_cons (pv 4) pa_nil)))))))
      (pss_one (ps_set (i := 1) sc_law_bound.nd rfl (Or.inr rfl) (pe_lc rfl sc_law_bound.nd (pi_enum rfl T.f_enumerate (pa_cons (pv 1) pa_nil)) (blkOk_by (own := [("_law_at", 6), ("_law_pair", 7)]) rfl) (fun _ _ _ _ _ => (show PG _ _ (gTup K 2 _) from (pg_tup rfl (pgs_cons (pg_name (i := 6) sc_law_bound.nd rfl (Or.inl rfl)) (pgs_cons (pg_name (i := 7) sc_law_bound.nd rfl (Or.inl rfl)) pgs_nil))))) (fun _ _ _ _ _ => (pts_one (show PT _ _ (tB (tOp (rNotInD K) _ _)) from (pt_cmpR (op_notInD hu65) (pv 7) (show PE _ _ (tSl (rSlL K) _ _ _) from (pe_slice sl_list (pv 1) po_none (po_some (pv 6)))) (by rfl))))) (fun _ _ _ _ _ => (pv 7)))))))
      (pss_cons (ps_par (i := 8) (j := 9) (by rfl) sc_law_bound.nd rfl rfl (by decide) rfl rfl (pa_cons (pe_op op_add (pe_callB (id := "len") call_len_seq (by rfl) T.f_len PySem.boot_len (pa_cons (pv 1) pa_nil)) (pe_callTy (T := "int") call_int1 (by rfl) T.f_int (by decide +kernel) (pa_cons (pe_cmpR (op_eqD hu) (pe_lc rfl sc_law_bound.nd (pi_list (pv 1)) (blkOk_by (own := [("_law_later", 5), ("_law_out", 4)]) rfl) (fun _ _ _ _ _ => (show PG _ _ (gTup K 2 _) from (pg_tup rfl (pgs_cons (pg_name (i := 5) sc_law_bound.nd rfl (Or.inl rfl)) (pgs_cons (pg_name (i := 4) sc_law_bound.nd rfl (Or.inl rfl)) pgs_nil))))) (fun _ _ _ _ _ => (pts_one (pt_cmpR op_eq (pv 5) pe_int (nomark _)))) (fun _ _ _ _ _ => pe_int)) (pe_lst pa_nil) (nomark _)) pa_nil))) (pa_cons (pe_callB (id := "len") call_len_seq (by rfl) T.f_len PySem.boot_len (pa_cons (pe_ix ix_list (pv 0) pe_int (fun _ _ => rfl)) pa_nil)) pa_nil)) (by rfl))
      (pss_one (ps_ret (pe_op op_add (pe_op op_fdiv (pe_op op_mul (pe_op op_mul (pe_callB (id := "len") call_len_seq (by rfl) T.f_len PySem.boot_len (pa_cons (pv 0) pa_nil)) (pv 9)) (pe_op op_sub (pv 9) pe_int)) pe_int) (pe_op op_fdiv (pe_op op_mul (pv 8) (pe_op op_sub (pv 8) pe_int)) pe_int))))))), ?_⟩

  obtain ⟨rs, r, h, ha, hQ⟩ := hsp
  cases h with
  | mk S e n w' ok =>
    obtain ⟨v0, rfl, h0⟩ := alls1 ha
    have hn0 : 0 < n := ok.n1
    have hn3 : n ≤ 300 := ok.n2
    have hSn : S.length = n := ok.len
    have hw6 : w' ≤ 6 := ok.w2
    have hw1 : 1 ≤ w' := ok.w1
    have hnw : n * w' ≤ 300 * 6 := Nat.mul_le_mul hn3 hw6
    refine Evl.q_asgL (Evl.el_lst (vs := []) Evl.ea_nil (by decide)) (fun l0 H1 hl0 e1 hl01 => ?_)
    refine weq_for (B := H) (ms := S) (f := dRowL) (gwe_list (Evl.ev_var rfl) h0) e1 (fun k σ' H' => ∃ v x2 x3 x4 x5 x6 x7, σ' = [some v0, some v, x2, x3, x4, x5, x6, x7, none, none] ∧ Ex H H' ∧ (rLm K ((bndTo S k).map dP2)).on v H') (fun H2 e2 => ⟨_, _, _, _, _, _, _, rfl, Ex.tr e1 e2, l0, [], rfl, e2 _ _ hl01, .nil⟩) (fun i σ' H' z => by obtain ⟨_, _, _, _, _, _, _, _, z, _⟩ := z; exact z) ?_ ?_
    · rintro k m z σ' H2 H3 hm ⟨v, x2, x3, x4, x5, x6, x7, rfl, e2, hv⟩ e3 hz
      have hrow : rowAt S k = m := rowAt_of hm
      have hkn : k < n := by rw [← hSn]; exact (List.getElem?_eq_some_iff.mp hm).1
      have hml : m.length = w' := by rw [← hrow]; exact ok.rowLen hkn
      obtain ⟨l, xs, rfl, hl, hxs⟩ := (rLm K ((bndTo S k).map dP2)).up e3 hv
      have hbl := bnd_le ok.toOkR (Nat.le_of_lt hkn)
      have hbl1 := bnd_le (S := S) ok.toOkR (k := k + 1) hkn
      obtain ⟨u, hu⟩ : ∃ u, u = bndTo S k := ⟨_, rfl⟩
      rw [← hu] at hxs hbl
      have hcl : ((chgRow k m).filter fun x => decide (x ∉ u)).length ≤ w' := by
        refine Nat.le_trans (List.length_filter_le _ _) ?_
        unfold chgRow
        rw [List.length_map, ← hml]
        exact List.length_filter_le _ _
      refine g_asg (r := rLm K (u.map dP2 ++ ((chgRow k m).filter fun x => decide (x ∉ u)).map dP2)) (gd_cat (Evl.ev_var rfl) hl hxs ?_ (by rw [List.length_map, List.length_map]; omega)) (fun v1 H4 e4 hv1 => ?_)
      · rw [List.map_map, ← chg_filter, List.map_map]
        refine gl_lcP (d1 := fun p : Rule => .int (p.1 : Nat)) (d2 := fun p : Rule => .int (p.2 : Nat)) (fun p => decide (p.2 ≠ k) && decide (¬ (p.2, p.1) ∈ u)) (fun p : Rule => rD K (dP2 (p.2, p.1))) (gi_list (f := dRule) (gd_v (i := 3) rfl (dp_ex (Ex.tr e2 e3) _ _ hz))) (by omega) (fun _ => but_D rfl) (by exact fun _ _ => rfl) (fun p hp x' y' H4 e4 hx' hy' => ?_) (fun p hp x' y' H4 e4 hx' hy' _ => ?_)
        · obtain rfl := dp_int hx'
          obtain rfl := dp_int hy'
          exact Evl.et_and (Evl.et_B (Evl.ev_op (Evl.ev_var rfl) (Evl.ev_var rfl) (rv_neI dec_ne_nat))) (fun _ => Evl.et_B (Evl.ev_is (ev_notInD (d := dP2 (p.2, p.1)) (gd_tup (ds := [.int (p.2 : Nat), .int (p.1 : Nat)]) (ga_int (Evl.ev_var rfl) (ga_int (Evl.ev_var rfl) ga_nil)) (by simp)) (gd_v (i := 1) (r := rD K (.list (u.map dP2))) rfl (.lst (Evl.sq_of (e4 _ _ hl)) (dpa_ex e4 _ _ hxs))) (shaped_P2 _) (shaped_P2s _)) (by rw [any_P2]; simp)))
        · exact gd_tup (ds := [.int (p.2 : Nat), .int (p.1 : Nat)]) (ga_cons (gd_v rfl hy') (ga_1 (gd_v rfl hx'))) (by simp)
      · obtain ⟨lst, hlst⟩ : ∃ lst, lst = u ++ (chgRow k m).filter fun x => decide (x ∉ u) := ⟨_, rfl⟩
        have hsucc : bndTo S (k + 1) = firstsL lst := by
          rw [bndTo_succ, hrow, hlst, hu]
        rw [← List.map_append, ← hlst] at hv1
        have hll : lst.length ≤ 1800 + 6 := by
          rw [hlst, List.length_append]
          omega
        have hv1D := rLm_D hv1
        refine gl_to_lm ?_ (fun v2 H5 e5 hv2 => ⟨v2, _, _, _, _, _, _, rfl, Ex.tr e2 (Ex.tr e3 (Ex.tr e4 e5)), by rw [hsucc]; exact hv2⟩)
        have hfl : ((firstsL lst).map dP2).map (rD K) = (lst.zipIdx.filter fun q : (Nat × Nat) × Nat => decide (q.1 ∉ lst.take q.2)).map fun q => rD K (dP2 q.1) := by
          unfold firstsL
          rw [List.map_map, List.map_map]
          have e : ∀ d1 d2 : DecidablePred (fun q : (Nat × Nat) × Nat => q.1 ∉ lst.take q.2), (lst.zipIdx.filter fun q => @decide _ (d1 q)) = lst.zipIdx.filter fun q => @decide _ (d2 q) := fun d1 d2 => List.filter_congr fun x _ => decide_eq_decide.mpr Iff.rfl
          exact congrArg (List.map fun q : (Nat × Nat) × Nat => rD K (dP2 q.1)) (e _ _)
        rw [hfl]
        refine gl_lcP (d1 := fun q : (Nat × Nat) × Nat => .int (q.2 : Nat)) (d2 := fun q : (Nat × Nat) × Nat => dP2 q.1) (fun q : (Nat × Nat) × Nat => decide (q.1 ∉ lst.take q.2)) (fun q : (Nat × Nat) × Nat => rD K (dP2 q.1)) (gi_enum (ms := lst) (f := dP2) (gd_v (i := 1) rfl hv1D)) (by rw [List.length_zipIdx]; omega) (fun _ => but_D rfl) (by exact fun _ _ => rfl) (fun q hq x' y' H5 e5 hx' hy' => ?_) (fun q hq x' y' H5 e5 hx' hy' _ => gd_v rfl hy')
        obtain rfl := dp_int hx'
        refine Evl.et_B (Evl.ev_is (ev_notInD (d := dP2 q.1) (ds := (lst.take q.2).map dP2) (gd_v rfl hy') ?_ (shaped_P2 _) (shaped_P2s _)) (by rw [any_P2]; simp))
        rw [List.map_take]
        exact gd_slL (gd_v (i := 1) rfl ((rD K (.list (lst.map dP2))).up e5 hv1D)) (Evl.ev_var rfl)
    · rintro σ' H2 ⟨v, x2, x3, x4, x5, x6, x7, rfl, e2, hv⟩
      have hv : (rLm K ((arrU S).map dP2)).on v H2 := by rw [← bndTo_all]; exact hv
      have hvD := rLm_D hv
      have hal : (arrU S).length ≤ n * w' := by
        have := bnd_le (S := S) ok.toOkR (Nat.le_refl n)
        rw [← hSn, bndTo_all, hSn] at this
        exact this
      obtain ⟨zs, hzs⟩ : ∃ zs, zs = (arrU S).filter fun q => decide (q.1 = 0) := ⟨_, rfl⟩
      have hway : Evl.Ev (tCB (fun xs H Q => ∃ p ys, xs = [.ref p] ∧ (SqL K H p ys ∨ SqT K H p ys) ∧ Q (.int ys.length) H) (tCons (tOp (rIxL K) (tVar 0) (tC (.int 0))) tNil)) [some v0, some v, x2, x3, x4, x5, x6, x7, none, none] H2 (.int (w' : Nat)) := Evl.ev_is (ev_lenS (d := dRowL (rowAt S 0)) (gd_ixL (ds := S.map dRowL) (gd_v (i := 0) rfl (dp_ex e2 _ _ h0)) Evl.ev_c (atI_nat (j := 0) (by
        rw [List.getElem?_map]
        have : 0 < S.length := by omega
        simp [rowAt, List.getElem?_eq_getElem this]))) (.inl rfl)) (by rw [List.length_map, ok.rowLen hn0])
      refine g_par (r1 := rV (.int ((arrF S).length : Nat))) (r2 := rV (.int (w' : Nat))) (ga_ev ?_ (ga_ev hway ga_nil)) (fun v1 v2 H3 e3 hv1 hv2 => ?_)
      · refine Evl.ev_is (Evl.ev_op (ev_lenS (d := .list ((arrU S).map dP2)) (gd_v (i := 1) rfl hvD) (.inl rfl)) (ev_intB (ev_eqD (d := .list (zs.map fun _ => .int 1)) (e := .list []) (gd_lst' (f := fun _ : Nat × Nat => .int 1) ?_) (gd_lst (ds := []) ga_nil (by decide)) (shaped_list (fun _ => lay_int 1) (fun _ => dep_int 1) zs) (by decide +kernel))) Evl.rv_I0) ?_
        · rw [hzs]
          refine gd_lcP (d1 := fun q : Nat × Nat => .int (q.1 : Nat)) (d2 := fun q : Nat × Nat => .int (q.2 : Nat)) (fun q : Nat × Nat => decide (q.1 = 0)) (fun _ : Nat × Nat => rD K (.int 1)) (gi_list (ms := arrU S) (f := dP2) (gd_v (i := 1) rfl hvD)) (by omega) (fun _ => but_D rfl) (by exact fun _ _ => rfl) (fun q hq x' y' H4 e4 hx' hy' => ?_) (fun q hq x' y' H4 e4 hx' hy' _ => gd_ev Evl.ev_c (.int 1))
          obtain rfl := dp_int hx'
          exact Evl.et_B (Evl.ev_op (Evl.ev_var rfl) Evl.ev_c (rv_eqI (dec_eq_nat (b := 0))))
        · rw [bnd_len, List.length_map, ← hzs]
          show V.int _ = V.int _
          cases zs with
          | nil => rfl
          | cons a b => simp [PyData.eqv, PyData.eqvAll]
      obtain rfl : v1 = V.int _ := hv1
      obtain rfl : v2 = V.int _ := hv2
      obtain ⟨m, hm⟩ : ∃ m, m = (arrF S).length := ⟨_, rfl⟩
      have hm1 : 1 ≤ m := by rw [hm]; exact ok.toOkR.arr_pos
      have hm2 : m ≤ 2000 := by
        rw [hm, bnd_len]
        split <;> omega
      rw [← hm]
      refine Evl.s_ret (Evl.ev_is (Evl.ev_op (Evl.ev_op (Evl.ev_op (Evl.ev_op (Evl.ev_is (ev_lenS (gd_v (i := 0) rfl (dp_ex (Ex.tr e2 e3) _ _ h0)) (.inl rfl)) (show V.int ((S.map dRowL).length : Int) = V.int (n : Nat) by rw [List.length_map, hSn])) (Evl.ev_var rfl) (Evl.rv_I ?_)) (Evl.ev_op (Evl.ev_var rfl) Evl.ev_c Evl.rv_I0) (Evl.rv_I ?_)) Evl.ev_c (Evl.rv_I ?_)) (Evl.ev_op (Evl.ev_op (Evl.ev_var rfl) (Evl.ev_op (Evl.ev_var rfl) Evl.ev_c Evl.rv_I0) (Evl.rv_I ?_)) Evl.ev_c (Evl.rv_I ?_)) Evl.rv_I0) ?_) (fun H4 e4 => hQ _ _ (Ex.tr e2 (Ex.tr e3 e4)) (by rw [← hm]; rfl))
      · exact .inl (by omega)
      · exact .inr (by omega)
      · exact ⟨by omega, by omega⟩
      · exact .inl (by omega)
      · exact ⟨by omega, by omega⟩
      · show V.int _ = V.int _
        congr 1
        unfold piecesF manyF
        obtain ⟨w2, rfl⟩ : ∃ w2, w' = w2 + 1 := ⟨w' - 1, by omega⟩
        obtain ⟨m', rfl⟩ : ∃ m', m = m' + 1 := ⟨m - 1, by omega⟩
        simp only [Nat.add_sub_cancel]
        push_cast
        rw [show (w2 : Int) + 1 - 1 = (w2 : Int) by omega, show (m' : Int) + 1 - 1 = (m' : Int) by omega]
end Mk
namespace Mk
open PySem PySem.Spec PyProof.Rows L2
section
variable {P : Program} {w : World} {K : PySem.W.Frag} {mg : Str → Option Value} {base : Heap}
/-- a def whose body wants a token; its arguments give it -/
theorem cal_ofT {x : Str} {st : Stmt} {f : Addr} {N ps : List Str} {k : Nat} {sp : Sp} (hg : mg x = some (.ref f)) (F : ∃ fd, FunD K x x (defArgs st) (defBody st) (defScope st) [] [] f fd)
    (hb : ∀ (kV doc pm : Value) (an : Option Addr) (cdv ct : Value) (us : List Value), us.length = ps.length → bindArgs (PySem.W.fnOf x x (defArgs st) (defBody st) (defScope st) .none kV doc pm an cdv ct) ⟨us, []⟩ = pure (ps.zip us))
    (S : FnScope N ps (defScope st)) (hnc : ∀ y ∈ (defScope st).names, y.2 ≠ .cell) (hps : 1 ≤ ps.length) (len : ∀ vs H Q E, sp vs H Q E → vs.length = ps.length)
    (hbody : ∀ (cdv : Value) (A : Around) (outer : List Env) (s : Shared) (H : Hp) (vs : List V) (Q : VK) (E : XK), Room k (A.deeper (envOfC x (defScope st) s.heap.objs.size f cdv)) → sp vs H Q E →
      ∃ t, PSsT (cxOf CX0 P w K mg base N x (defScope st) f cdv A outer s H E) (defBody st) t ∧ t { nx := fun _ H' => Q .non H', rt := Q } (start N vs) H) : Cal P w K mg base x (k + 1) ps [] sp := by
  obtain ⟨fd, F⟩ := F
  have bn := F.bindsN hb
  have kp := F.kp
  obtain ⟨oc, od, dV, kV, doc, pm, an, cdv, ct, osl, rfl, lk, hcd, _, _⟩ := F.ex
  exact ⟨f, _, [], hg, kp, .nil, bn, fn_ofT lk hcd S hnc hps len fun A outer s H vs Q E hr hsp => hbody cdv A outer s H vs Q E hr hsp⟩
theorem pst_set {X : Cx} {i : Nat} {x : Str} {e : Expr} {te : TE} {pos pos' : Pos} (hN : X.N.Nodup) (hi : X.N[i]? = some x) (hx : Loc X.env.scope x) (he : PET X e te) (hs : swapsWith e (some (.Name x pos')) pos.line X.env = pure false := by rfl) (hf : X.fn x = true ∨ X.env.scope.names.lookup x = some .local := by first | exact .inl rfl | exact .inr rfl | assumption) :
    PST X (.Assign [.Name x pos'] e pos) (tAsg te (gName i)) := by
  intro pins s σ H D h0 I h
  refine wpAny_Assign_Name (thn (he pins s σ H _ h0 I h) fun v s1 ⟨y, H1, I1, r1, q1⟩ => ?_) hs
  exact store_ok I1 hN hi hx r1 (fun s2 I2 => ⟨_, H1, I2, q1⟩) hf
end
/-! ### the words -/
theorem rep_look : Txt.replace ("look" : Str) ("look" : Str) ("" : Str) = ("" : Str) := by decide +kernel
theorem rep_set : Txt.replace ("set" : Str) ("look" : Str) ("" : Str) = ("set" : Str) := by decide +kernel
theorem rep_reset : Txt.replace ("reset" : Str) ("look" : Str) ("" : Str) = ("reset" : Str) := by decide +kernel
theorem cut_look : Txt.slice ("look" : Str) none (some 4) = ("look" : Str) := by decide +kernel
theorem cut_set : Txt.slice ("set" : Str) none (some 4) = ("set" : Str) := by decide +kernel
theorem cut_reset : Txt.slice ("reset" : Str) none (some 4) = ("rese" : Str) := by decide +kernel
section
variable {K : PySem.W.Frag} {σ : L2.St} {H : Hp} {te tx : TE} {x y z : Str} {v : V}
theorem ev_repl (h : Evl.Ev te σ H (.str x)) (hb : x.length + (x.length + 1) * z.length ≤ 16777216) : Evl.Ev (CwR.tReplC te y z) σ H (.str (Txt.replace x y z)) := fun H1 e Q q => h H1 e _ fun H2 e2 => ⟨x, rfl, hb, q H2 e2⟩
theorem ev_cut {n : Int} (h : Evl.Ev te σ H (.str x)) (hb : x.length ≤ sizeLine) : Evl.Ev (tSl C8.rSlX te tNoPart (tPart (tC (.int n)))) σ H (.str (Txt.slice x none (some n))) := fun H1 e Q q => h H1 e _ fun H2 e2 => ⟨n, rfl, x, rfl, hb, q H2 e2⟩
end
end Mk
namespace Mk
open PySem PySem.Spec PyProof.Rows L2

/-! ### _law_firsts -/
abbrev N_law_firsts : List Str := ["_law_ways", "_law_found", "_law_word"]
theorem sc_law_firsts : FnScope N_law_firsts ["_law_ways"] (defScope s_law_firsts) := ⟨rfl, rfl, rfl, by decide +kernel, rfl, by decide +kernel, by decide +kernel⟩
inductive rel_law_firsts (K : PySem.W.Frag) : List Rel → Rel → Prop
  | mk : rel_law_firsts K [rD K (.tuple (ways3.map .str))] (rD K (lotsD [0, 2, 3, 4]))
theorem ok_law_firsts {P : Program} {w : World} {K : PySem.W.Frag} {mg : Str → Option Value} {base : Heap} (T : Txt K mg) : Cal P w K mg base "_law_firsts" 1 ["_law_ways"] [] (SpR (rel_law_firsts K)) := by
  refine cal_of (st := s_law_firsts) T.g__law_firsts (T.d.def_ 29 rfl) (fun _ _ _ _ _ _ us hl => match us, hl with | [_], _ => rfl) sc_law_firsts (fun vs H Q E hsp => by obtain ⟨rs, r, h, ha, _⟩ := hsp; rw [ha.len]; cases h <;> rfl) fun cdv A outer s H vs Q E hr hsp => ?_
  have hu := hr.units
  have hu0 := hu_of hr
  have hu65 := hu65_of hr
  refine ⟨_, (pss_cons (ps_set (i := 1) sc_law_firsts.nd rfl (Or.inl rfl) (pe_lst (pa_cons pe_int pa_nil)))
      (pss_cons (ps_for PassesOwn.never rfl (pi_tup (pv 0)) (pg_name (i := 2) sc_law_firsts.nd rfl (Or.inl rfl))
      (pss_one (ps_expr (pe_bm PySem.F.plainAttrs_list PySem.F.slot_list_append PySem.F.type_list_append mt_append (pv 1) (pa_cons (pe_op op_add (pe_op op_add (pe_ix ix_list (pv 1) (pe_un un_neg pe_int) (fun _ _ => rfl)) pe_int) (pe_callTy (T := "int") call_int1 (by rfl) T.f_int (by decide +kernel) (pa_cons (pe_cmpR op_eq (pe_slice C8.sl_txt (pv 2) po_none (po_some pe_int)) pe_str (nomark _)) pa_nil))) pa_nil)))))
      (pss_one (ps_ret (pv 1))))), ?_⟩

  obtain ⟨rs, r, h, ha, hQ⟩ := hsp
  cases h with
  | mk =>
    obtain ⟨v0, rfl, h0⟩ := alls1 ha
    refine Evl.q_asgL (Evl.el_lst (vs := [.int 0]) (Evl.ea_cons Evl.ev_c Evl.ea_nil) (by simp)) (fun l H1 hl e1 hl1 => ?_)
    refine wq_for (B := H) (ms := ways3) (e := fun k => rD K (.str k)) (gw_tup (f := PyData.str) (v := v0) (Evl.ev_var rfl) h0) e1 (fun i σ' H' => ∃ x2, σ' = [some v0, some (.ref l), x2] ∧ Ex H H' ∧ H' l = some (.lst (([0, 2, 3, 4] : List Int).take (i + 1) |>.map V.int))) (fun H2 e2 => ⟨_, rfl, Ex.tr e1 e2, e2 _ _ hl1⟩) (fun i σ' H' z => by obtain ⟨_, _, z, _⟩ := z; exact z) ?_ ?_
    · rintro i wd x σ' H2 hwd ⟨x2, rfl, e2, hl2⟩ hx
      obtain rfl := dp_str hx
      have hc : (i = 0 ∧ wd = "look") ∨ (i = 1 ∧ wd = "set") ∨ (i = 2 ∧ wd = "reset") := by
        match i, hwd with
        | 0, h => cases h; exact .inl ⟨rfl, rfl⟩
        | 1, h => cases h; exact .inr (.inl ⟨rfl, rfl⟩)
        | 2, h => cases h; exact .inr (.inr ⟨rfl, rfl⟩)
        | i + 3, h => simp [ways3] at h
      rcases hc with ⟨rfl, rfl⟩ | ⟨rfl, rfl⟩ | ⟨rfl, rfl⟩
      · refine Evl.s_app hl2 (Evl.ev_var rfl) (v := .int 2) (Evl.ev_is (Evl.ev_op (Evl.ev_op (Evl.ev_op (Evl.ev_var rfl) (Evl.ev_un Evl.ev_c Evl.ru_neg) (Evl.rv_ixL (v := .int 0) (Evl.sq_of hl2) (by rfl))) Evl.ev_c Evl.rv_I0) (ev_intB (b := true) (Evl.ev_is (Evl.ev_op (ev_cut (Evl.ev_var rfl) (by decide +kernel)) Evl.ev_c (Evl.rv_eq rfl)) (by rw [cut_look]; simp))) Evl.rv_I0) (by rfl)) (by simp) (fun H3 e3 => ⟨_, rfl, Evl.Ex.mut (Ex.tr e2 e3) hl, upd_same⟩)
      · refine Evl.s_app hl2 (Evl.ev_var rfl) (v := .int 3) (Evl.ev_is (Evl.ev_op (Evl.ev_op (Evl.ev_op (Evl.ev_var rfl) (Evl.ev_un Evl.ev_c Evl.ru_neg) (Evl.rv_ixL (v := .int 2) (Evl.sq_of hl2) (by rfl))) Evl.ev_c Evl.rv_I0) (ev_intB (b := false) (Evl.ev_is (Evl.ev_op (ev_cut (Evl.ev_var rfl) (by decide +kernel)) Evl.ev_c (Evl.rv_eq rfl)) (by rw [cut_set]; decide +kernel))) Evl.rv_I0) (by rfl)) (by simp) (fun H3 e3 => ⟨_, rfl, Evl.Ex.mut (Ex.tr e2 e3) hl, upd_same⟩)
      · refine Evl.s_app hl2 (Evl.ev_var rfl) (v := .int 4) (Evl.ev_is (Evl.ev_op (Evl.ev_op (Evl.ev_op (Evl.ev_var rfl) (Evl.ev_un Evl.ev_c Evl.ru_neg) (Evl.rv_ixL (v := .int 3) (Evl.sq_of hl2) (by rfl))) Evl.ev_c Evl.rv_I0) (ev_intB (b := false) (Evl.ev_is (Evl.ev_op (ev_cut (Evl.ev_var rfl) (by decide +kernel)) Evl.ev_c (Evl.rv_eq rfl)) (by rw [cut_reset]; decide +kernel))) Evl.rv_I0) (by rfl)) (by simp) (fun H3 e3 => ⟨_, rfl, Evl.Ex.mut (Ex.tr e2 e3) hl, upd_same⟩)
    · rintro σ' H2 ⟨x2, rfl, e2, hl2⟩
      have hl2 : H2 l = some (.lst (([0, 2, 3, 4] : List Nat).map fun n => .int (n : Nat))) := hl2
      exact Evl.s_ret (Evl.ev_var rfl) (fun H3 e3 => hQ _ _ (Ex.tr e2 e3) ((rD K (lotsD [0, 2, 3, 4])).up e3 (ints_but (H' := H2) hl2)))
/-! ### _law_behind -/
abbrev N_law_behind : List Str := ["_law_word", "_law_standing", "_law_deed"]
theorem sc_law_behind : FnScope N_law_behind ["_law_word", "_law_standing"] (defScope s_law_behind) := ⟨rfl, rfl, rfl, by decide +kernel, rfl, by decide +kernel, by decide +kernel⟩
inductive rel_law_behind (K : PySem.W.Frag) : List Rel → Rel → Prop
  | look (b : Nat) : rel_law_behind K [rV (.str "look"), rV (.int (b : Nat))] (rV (.int (b : Nat)))
  | set (b : Nat) : rel_law_behind K [rV (.str "set"), rV (.int (b : Nat))] (rV (.int (1 : Nat)))
  | reset (b : Nat) : rel_law_behind K [rV (.str "reset"), rV (.int (b : Nat))] (rV (.int (0 : Nat)))
theorem ok_law_behind {P : Program} {w : World} {K : PySem.W.Frag} {mg : Str → Option Value} {base : Heap} (T : Txt K mg) : Cal P w K mg base "_law_behind" 1 ["_law_word", "_law_standing"] [] (SpR (rel_law_behind K)) := by
  refine cal_ofT (st := s_law_behind) T.g__law_behind (T.d.def_ 30 rfl) (fun _ _ _ _ _ _ us hl => match us, hl with | [_, _], _ => rfl) sc_law_behind (by decide +kernel) (by decide) (fun vs H Q E hsp => by obtain ⟨rs, r, h, ha, _⟩ := hsp; rw [ha.len]; cases h <;> rfl) fun cdv A outer s H vs Q E hr hsp => ?_
  have hu := hr.units
  have hu0 := hu_of hr
  refine ⟨_, psst_cons (pst_set (i := 2) sc_law_behind.nd rfl (Or.inl rfl) (CwR.pet_replC (pv 0))) (PSsT.of (pss_cons (ps_if (pt_cmpR op_eq (pv 2) pe_str (nomark _)) (pss_one (ps_ret (pe_op op_sub pe_int (pv 1)))) pss_nil) (pss_one (ps_ret (pe_dget2 hu0 (pe_disp (pps_cons pe_str pe_int (pps_cons pe_str pe_int pps_nil)) (by rfl) (by rfl) (fun z => by cases z) (by decide)) (pv 2) (pv 1) ⟨rfl, rfl, rfl, rfl⟩))))), ?_⟩
  obtain ⟨rs, r, h, ha, hQ⟩ := hsp
  cases h with
  | look b =>
    obtain ⟨v0, v1, rfl, h0, h1⟩ := alls2 ha
    obtain rfl : v0 = V.str "look" := h0
    obtain rfl : v1 = V.int (b : Nat) := h1
    refine Evl.q_asg (v := .str "") (Evl.ev_is (ev_repl (Evl.ev_var rfl) (by decide +kernel)) (by rw [rep_look])) (fun H1 e1 => ?_)
    refine Evl.q_when (b := false) (Evl.et_B (Evl.ev_is (Evl.ev_op (Evl.ev_var rfl) Evl.ev_c (Evl.rv_eq rfl)) (by decide +kernel))) (fun h => by cases h) (fun _ H2 e2 => ?_)
    have hv : (valV (mergeK [] [((.inr "set" : Key), V.int 1), ((.inr "reset" : Key), V.int 0)]) (.inr "")) = none := by decide +kernel
    refine fun p hp => ⟨upd_same, [(.inr "set", .int 1), (.inr "reset", .int 0)], rfl, by decide, p, rfl, .inl ⟨_, .inl upd_same⟩, _, rfl, _, rfl, _, DGet.k (k := .inr "") upd_same, ?_⟩
    rw [hv]
    exact hQ _ _ (Evl.Ex.mut (Ex.tr e1 (Ex.tr e2 (Ex.nw hp))) (Evl.fresh_back (Ex.tr e1 e2) hp)) rfl
  | set b =>
    obtain ⟨v0, v1, rfl, h0, h1⟩ := alls2 ha
    obtain rfl : v0 = V.str "set" := h0
    obtain rfl : v1 = V.int (b : Nat) := h1
    refine Evl.q_asg (v := .str "set") (Evl.ev_is (ev_repl (Evl.ev_var rfl) (by decide +kernel)) (by rw [rep_set])) (fun H1 e1 => ?_)
    refine Evl.q_when (b := false) (Evl.et_B (Evl.ev_is (Evl.ev_op (Evl.ev_var rfl) Evl.ev_c (Evl.rv_eq rfl)) (by decide +kernel))) (fun h => by cases h) (fun _ H2 e2 => ?_)
    have hv : (valV (mergeK [] [((.inr "set" : Key), V.int 1), ((.inr "reset" : Key), V.int 0)]) (.inr "set")) = some (.int 1) := by decide +kernel
    refine fun p hp => ⟨upd_same, [(.inr "set", .int 1), (.inr "reset", .int 0)], rfl, by decide, p, rfl, .inl ⟨_, .inl upd_same⟩, _, rfl, _, rfl, _, DGet.k (k := .inr "set") upd_same, ?_⟩
    rw [hv]
    exact hQ _ _ (Evl.Ex.mut (Ex.tr e1 (Ex.tr e2 (Ex.nw hp))) (Evl.fresh_back (Ex.tr e1 e2) hp)) rfl
  | reset b =>
    obtain ⟨v0, v1, rfl, h0, h1⟩ := alls2 ha
    obtain rfl : v0 = V.str "reset" := h0
    obtain rfl : v1 = V.int (b : Nat) := h1
    refine Evl.q_asg (v := .str "reset") (Evl.ev_is (ev_repl (Evl.ev_var rfl) (by decide +kernel)) (by rw [rep_reset])) (fun H1 e1 => ?_)
    refine Evl.q_when (b := false) (Evl.et_B (Evl.ev_is (Evl.ev_op (Evl.ev_var rfl) Evl.ev_c (Evl.rv_eq rfl)) (by decide +kernel))) (fun h => by cases h) (fun _ H2 e2 => ?_)
    have hv : (valV (mergeK [] [((.inr "set" : Key), V.int 1), ((.inr "reset" : Key), V.int 0)]) (.inr "reset")) = some (.int 0) := by decide +kernel
    refine fun p hp => ⟨upd_same, [(.inr "set", .int 1), (.inr "reset", .int 0)], rfl, by decide, p, rfl, .inl ⟨_, .inl upd_same⟩, _, rfl, _, rfl, _, DGet.k (k := .inr "reset") upd_same, ?_⟩
    rw [hv]
    exact hQ _ _ (Evl.Ex.mut (Ex.tr e1 (Ex.tr e2 (Ex.nw hp))) (Evl.fresh_back (Ex.tr e1 e2) hp)) rfl
end Mk
namespace Mk
open PySem PySem.Spec PyProof.Rows L2
section
variable {K : PySem.W.Frag} {σ : L2.St} {H : Hp} {ta te : TE} {d : PyData} {ds : List PyData}
theorem gl_listOf (h : GD ta σ H (rD K d)) (s : SeqD d ds) : GL (tCB (fun xs H Q => ∃ p ys, xs = [.ref p] ∧ (SqL K H p ys ∨ SqT K H p ys) ∧ ∀ l, H l = none → Q (.ref l) (upd H l (.lst ys))) (tCons ta tNil)) σ H (ds.map (rD K)) := fun H1 e Q q => h H1 e _ fun x H2 e2 hx => by
  obtain ⟨a, xs, rfl, h1, h2⟩ := seq_at s hx
  exact ⟨a, xs, rfl, h1, fun l hl => q l xs _ (Evl.fresh_back e2 hl) (Ex.tr e2 (Ex.nw hl)) upd_same ((Alls.of_data h2).up (Ex.nw hl))⟩
theorem bits_val {bs : List Nat} {xs : List V} (h : Alls ((dBits bs).map (rD K)) xs H) : xs = bs.map fun n => .int (n : Nat) := by
  have h2 : DpAll K H xs (bs.map fun n => PyData.int (n : Nat)) := h.data
  have e := ints_eq h2
  rw [List.map_map] at e
  exact e
/-- a way of look set reset: its word, what is behind it, its first exit -/
theorem way3 {k : Nat} (hk : k < 3) : ∃ wd : Str, ways3[k]? = some wd ∧ wd.length ≤ sizeLine ∧ decide (V.str (Txt.slice wd none (some 4)) = V.str "look") = decide (k = 0) ∧ (∀ b : Nat, rel_law_behind K [rV (.str wd), rV (.int (b : Nat))] (rV (.int (newBit k b : Nat)))) ∧ ([0, 2, 3, 4] : List Nat)[k]? = some (fst3 k) := by
  match k, hk with
  | 0, _ => exact ⟨"look", rfl, by decide +kernel, by rw [cut_look]; simp, fun b => .look b, rfl⟩
  | 1, _ => exact ⟨"set", rfl, by decide +kernel, by rw [cut_set]; decide +kernel, fun b => .set b, rfl⟩
  | 2, _ => exact ⟨"reset", rfl, by decide +kernel, by rw [cut_reset]; decide +kernel, fun b => .reset b, rfl⟩
/-- x = e, e's value standing in B -/
theorem gB_asg' {B : Hp} {D : Ends} {i : Nat} (h : ∃ v, Dp K B v d ∧ Evl.Ev te σ H v) (k : ∀ v H1, Ex H H1 → Dp K B v d → D.nx (σ.set i (some v)) H1) : tAsg te (gName i) D σ H := let ⟨v, h1, h2⟩ := h; h2 H Ex.rfl' _ fun H1 e1 => k v H1 e1 h1
theorem dBits_bits {H : Hp} {l : Addr} {bs : List Nat} (h : H l = some (.lst (bs.map fun n => .int (n : Nat)))) : (rD K (.list (dBits bs))).on (.ref l) H := ints_but (H' := H) h
end
end Mk
namespace Mk
open PySem PySem.Spec PyProof.Rows L2

/-! ### _law_walked -/
abbrev N_law_walked : List Str := ["_law_web", "_law_standings", "_law_entry", "_law_most", "_law_firsts_here", "_law_target", "_law_many", "_law_found", "_law_step", "_law_piece", "_law_way", "_law_word", "_law_out"]
theorem sc_law_walked : FnScope N_law_walked ["_law_web", "_law_standings", "_law_entry", "_law_most"] (defScope s_law_walked) := ⟨rfl, rfl, rfl, by decide +kernel, rfl, by decide +kernel, by decide +kernel⟩
inductive rel_law_walked (K : PySem.W.Frag) : List Rel → Rel → Prop
  | mk (bs : List Nat) (w e : Nat) (J : List Tg) (ok : WebOk bs w e J) (b b' : List Nat) (x y most : Nat) (hb : BitsN bs.length b) (hx : x < w) (hm : most ≤ 100000) (h : walkW w J most (b, tgAt J x) = (b', .ex y)) :
    rel_law_walked K [webR K bs w e J, rD K (.tuple (dBits b)), rV (.int (x : Nat)), rV (.int (most : Nat))] (rD K (.tuple [.int (y : Nat), .tuple (dBits b')]))
theorem ok_law_walked {P : Program} {w : World} {K : PySem.W.Frag} {mg : Str → Option Value} {base : Heap} (T : Txt K mg) : Cal P w K mg base "_law_walked" 2 ["_law_web", "_law_standings", "_law_entry", "_law_most"] [] (SpR (rel_law_walked K)) := by
  refine cal_of (st := s_law_walked) T.g__law_walked (T.d.def_ 31 rfl) (fun _ _ _ _ _ _ us hl => match us, hl with | [_, _, _, _], _ => rfl) sc_law_walked (fun vs H Q E hsp => by obtain ⟨rs, r, h, ha, _⟩ := hsp; rw [ha.len]; cases h <;> rfl) fun cdv A outer s H vs Q E hr hsp => ?_
  have hu := hr.units
  have hu0 := hu_of hr
  have hu65 := hu65_of hr
  refine ⟨_, (pss_cons (ps_par (i := 4) (j := 5) (by rfl) sc_law_walked.nd rfl rfl (by decide) rfl rfl (pa_cons (pe_cal (ok_law_firsts (P := P) (w := w) (base := base) T) (hr.mono (by decide)) rfl (pa_cons (pe_fld (pe_fld (pv 0) rfl) rfl) pa_nil)) (pa_cons (pe_ix ix_tup (pe_fld (pv 0) rfl) (pv 2) (fun _ _ => rfl)) pa_nil)) (by rfl))
      (pss_cons (ps_par (i := 6) (j := 7) (by rfl) sc_law_walked.nd rfl rfl (by decide) rfl rfl (pa_cons (pe_ix ix_list (pv 4) (pe_un un_neg pe_int) (fun _ _ => rfl)) (pa_cons (pe_callTy (T := "list") call_list_of (by rfl) T.f_list (by decide +kernel) (pa_cons (pv 1) pa_nil)) pa_nil)) (by rfl))
      (pss_cons (ps_for PassesOwn.never rfl (pi_range1 rfl T.f_range (pa_cons (pv 3) pa_nil)) (pg_name (i := 8) sc_law_walked.nd rfl (Or.inl rfl))
      (pss_cons (ps_if (pt_val (pe_callB (id := "isinstance") call_isi (by rfl) T.f_isinstance (by decide +kernel) (pa_cons (pv 5) (pa_cons (pe_bltn (v := .ty "int") rfl T.f_int (by decide +kernel) rfl) pa_nil)))) (pss_one (ps_ret (pe_tup (pa_cons (pv 5) (pa_cons (pe_callTy (T := "tuple") call_tuple_of (by rfl) T.f_tuple (by decide +kernel) (pa_cons (pv 7) pa_nil)) pa_nil))))) pss_nil)
      (pss_cons (ps_asg (pv 5) (pg_tup rfl (pgs_cons (pg_name (i := 9) sc_law_walked.nd rfl (Or.inl rfl)) (pgs_cons (pg_name (i := 10) sc_law_walked.nd rfl (Or.inl rfl)) pgs_nil))))
      (pss_cons (ps_set (i := 11) sc_law_walked.nd rfl (Or.inl rfl) (pe_ix ix_tup (pe_fld (pe_fld (pv 0) rfl) rfl) (pv 10) (fun _ _ => rfl)))
      (pss_cons (ps_set (i := 12) sc_law_walked.nd rfl (Or.inl rfl) (pe_ifExp (pt_cmpR op_eq (pe_slice C8.sl_txt (pv 11) po_none (po_some pe_int)) pe_str (nomark _)) (pe_ix ix_list (pv 7) (pv 9) (fun _ _ => rfl)) pe_int))
      (pss_cons (ps_asg (pe_cal (ok_law_behind (P := P) (w := w) (base := base) T) (hr.mono (by decide)) rfl (pa_cons (pv 11) (pa_cons (pe_ix ix_list (pv 7) (pv 9) (fun _ _ => rfl)) pa_nil))) (pg_sub (pv 7) (pv 9) set_list))
      (pss_one (ps_set (i := 5) sc_law_walked.nd rfl (Or.inl rfl) (pe_ix ix_tup (pe_fld (pv 0) rfl) (pe_op op_add (pe_op op_add (pe_op op_add (pe_fld (pv 0) rfl) (pe_op op_mul (pv 9) (pv 6))) (pe_ix ix_list (pv 4) (pv 10) (fun _ _ => rfl))) (pv 12)) (fun _ _ => rfl))))))))))
      (pss_one (ps_ret (pe_ifExp (pt_val (pe_callB (id := "isinstance") call_isi (by rfl) T.f_isinstance (by decide +kernel) (pa_cons (pv 5) (pa_cons (pe_bltn (v := .ty "int") rfl T.f_int (by decide +kernel) rfl) pa_nil)))) (pe_tup (pa_cons (pv 5) (pa_cons (pe_callTy (T := "tuple") call_tuple_of (by rfl) T.f_tuple (by decide +kernel) (pa_cons (pv 7) pa_nil)) pa_nil))) pe_non)))))), ?_⟩

  obtain ⟨rs, r, h, ha, hQ⟩ := hsp
  cases h with
  | mk bs w' e J ok b b' x y most hb hx hm h =>
    obtain ⟨v0, v1, v2, v3, rfl, h0, h1, h2, h3⟩ := alls4 ha
    obtain rfl : v2 = V.int (x : Nat) := h2
    obtain rfl : v3 = V.int (most : Nat) := h3
    have hJl := ok.len
    have hJat : ∀ i, i < J.length → (J.map dTg)[i]? = some (dTg (tgAt J i)) := fun i hi => by rw [List.getElem?_map, tgAt_get' hi]; rfl
    have hJok : ∀ i, i < J.length → (tgAt J i).ok e bs.length 3 := fun i hi => ok.ok _ (List.mem_of_getElem? (tgAt_get' hi))
    refine g_par (r1 := rD K (lotsD [0, 2, 3, 4])) (r2 := rD K (dTg (tgAt J x))) (ga_cons (gd_call (rel := rel_law_firsts K) (ga_1 (gd_fld (gd_fld (r := kindR K) (gd_v (i := 0) rfl h0) T.cl_Web T.n_Web_kind) T.cl_Kind T.n_Kind_ways)) .mk) (ga_1 (gd_ixT (ds := J.map dTg) (gd_fld (gd_v (i := 0) rfl h0) T.cl_Web T.n_Web_joins) (Evl.ev_var rfl) (atI_nat (hJat x (by omega)))))) (fun v4 v5 H1 e1 h4 h5 => ?_)
    refine q_parK (cons_Ev (v := .int (4 : Nat)) (gd_int (K := K) (gd_ixL (gd_v (i := 4) (r := rD K (lotsD [0, 2, 3, 4])) rfl h4) (Evl.ev_un Evl.ev_c Evl.ru_neg) (by rfl))) (fun B e2 => cons_GL (gl_listOf (d := .tuple (dBits b)) (gd_v (i := 1) rfl (dp_ex (Ex.tr e1 e2) _ _ h1)) (.inr rfl)) (fun l xs H3 hl e3 hl3 hxs => ⟨_, _, rfl, ?_⟩)))
    have exs := bits_val hxs
    subst exs
    have eB : Ex H B := Ex.tr e1 e2
    have hlH : H l = none := Evl.fresh_back eB hl
    have h0B := (webR K bs w' e J).up eB h0
    have h4B := (rD K (lotsD [0, 2, 3, 4])).up e2 h4
    refine qr_forq (n := most) (Evl.ev_var rfl) hm (fun i σ' H' => ∃ tv bi ti x8 x9 x10 x11 x12, σ' = [some v0, some v1, some (.int (x : Nat)), some (.int (most : Nat)), some v4, some tv, some (.int (4 : Nat)), some (.ref l), x8, x9, x10, x11, x12] ∧ Ex B H' ∧ Dp K B tv (dTg ti) ∧ walkW w' J i (b, tgAt J x) = (bi, ti) ∧ ti.ok e bs.length 3 ∧ BitsN bs.length bi ∧ H' l = some (.lst (bi.map fun n => .int (n : Nat))))
      (fun H4 e4 => ⟨v5, b, tgAt J x, _, _, _, _, _, rfl, Ex.tr e3 e4, dp_ex e2 _ _ h5, rfl, hJok x (by omega), hb, e4 _ _ hl3⟩) ?_ ?_
    · rintro i σ' H4 hi ⟨tv, bi, ti, x8, x9, x10, x11, x12, rfl, e4, htv, hw, hto, hbi, hl4⟩
      cases ti with
      | ex z =>
        have hz : (bi, Tg.ex z) = (b', Tg.ex y) := by rw [← h, walk_le hw (Nat.le_of_lt hi)]
        obtain ⟨hz1, hz2⟩ := Prod.mk.inj hz
        injection hz2 with hz2
        subst hz1 hz2
        refine Evl.q_when (b := true) (Evl.et_test (ev_isi (gd_v (i := 5) (r := rD K (.int (z : Nat))) rfl (dp_ex e4 _ _ htv)) ki_int_int)) (fun _ H5 e5 => ?_) (fun h => by cases h)
        exact g_ret (gd_tup (ds := [.int (z : Nat), .tuple (dBits bi)]) (ga_cons (gd_v (i := 5) rfl (dp_ex (Ex.tr e4 e5) _ _ htv)) (ga_1 (gd_tupOf (gd_v (i := 7) rfl (dBits_bits (e5 _ _ hl4))) (.inl rfl)))) (by simp)) (fun v H6 e6 hv => hQ v H6 (Ex.tr eB (Ex.tr e4 (Ex.tr e5 e6))) hv)
      | pw p k =>
        have hp : p < bs.length := hto.1
        have hk : k < 3 := hto.2
        refine Evl.q_when (b := false) (Evl.et_test (ev_isi (gd_v (i := 5) (r := rD K (dTg (.pw p k))) rfl (dp_ex e4 _ _ htv)) ki_tup_int)) (fun h => by cases h) (fun _ H5 e5 => ?_)
        refine ⟨tv, rfl, gtup2 (dp_ex (Ex.tr e4 e5) _ _ htv) fun y1 y2 hy1 hy2 => ?_⟩
        obtain rfl := dp_int hy1
        obtain rfl := dp_int hy2
        obtain ⟨wd, hwd, hwl, hcut, hbeh, hfst⟩ := way3 (K := K) hk
        have e45 := Ex.tr e4 e5
        have hf3 : fst3 k ≤ 3 := by unfold fst3; split <;> omega
        refine g_asg (r := rD K (.str wd)) (gd_ixT (ds := ways3.map .str) (gd_fld (gd_fld (r := kindR K) (gd_v (i := 0) rfl ((webR K bs w' e J).up e45 h0B)) T.cl_Web T.n_Web_kind) T.cl_Kind T.n_Kind_ways) (Evl.ev_var rfl) (atI_nat (by rw [List.getElem?_map, hwd]; rfl))) (fun wv H6 e6 hwv => ?_)
        obtain rfl := dp_str hwv
        have e46 := Ex.tr e45 e6
        have hpb : p < bi.length := by rw [hbi.1]; exact hp
        have hc1 : bi.getD p 0 ≤ 1 := getD_le hbi.2
        have hl6 : H6 l = some (.lst (bi.map fun n => .int (n : Nat))) := e6 _ _ (e5 _ _ hl4)
        refine Evl.q_asg (v := .int ((if k = 0 then bi.getD p 0 else 0 : Nat) : Int)) (Evl.ev_if (b := decide (k = 0)) (Evl.et_B (Evl.ev_is (Evl.ev_op (ev_cut (Evl.ev_var rfl) hwl) Evl.ev_c (Evl.rv_eq rfl)) (by rw [hcut]))) (fun hb => ?_) (fun hb => ?_)) (fun H7 e7 => ?_)
        · rw [if_pos (of_decide_eq_true hb)]
          exact Evl.ev_op (Evl.ev_var rfl) (Evl.ev_var rfl) (Evl.rv_ixL (Evl.sq_of hl6) (atI_nat (ints_at hpb)))
        · rw [if_neg (of_decide_eq_false hb)]
          exact Evl.ev_c
        have hl7 := e7 _ _ hl6
        refine Evl.q_setL (l := l) (xs := bi.map fun n => .int (n : Nat)) (v := .int (newBit k (bi.getD p 0) : Nat)) (j := p) hl7 (ev_call (rel := rel_law_behind K) (ga_ev (Evl.ev_var rfl) (ga_ev (Evl.ev_op (Evl.ev_var rfl) (Evl.ev_var rfl) (Evl.rv_ixL (Evl.sq_of hl7) (atI_nat (ints_at hpb)))) ga_nil)) (hbeh _)) (Evl.ev_var rfl) (Evl.ev_var rfl) (by rw [List.length_map]; exact hpb) (fun H8 e8 => ?_)
        have eB8 : Ex B (upd H8 l (.lst ((bi.map fun n => V.int (n : Nat)).set p (.int (newBit k (bi.getD p 0) : Nat))))) := Evl.Ex.mut (Ex.tr e46 (Ex.tr e7 e8)) hl
        have hix : w' + p * 4 + fst3 k + (if k = 0 then bi.getD p 0 else 0) < J.length := by
          rw [hJl]
          split
          · rename_i hk0
            have : fst3 k = 0 := by rw [hk0]; rfl
            omega
          · omega
        have hst : walkW w' J (i + 1) (b, tgAt J x) = (bi.set p (newBit k (bi.getD p 0)), tgAt J (w' + p * 4 + fst3 k + if k = 0 then bi.getD p 0 else 0)) := by
          rw [walk_succ, hw, stepW_eq]
        have hbits : BitsN bs.length (bi.set p (newBit k (bi.getD p 0))) := by
          have := walk_bits (w := w') (J := J) (i + 1) (a := (b, tgAt J x)) hb
          rw [hst] at this
          exact this
        have hbs := ok.b2
        refine gB_asg' (B := B) (d := dTg (tgAt J (w' + p * 4 + fst3 k + if k = 0 then bi.getD p 0 else 0))) ?_ (fun v H9 e9 hv => ⟨v, _, _, _, _, _, _, _, rfl, Ex.tr eB8 e9, hv, hst, hJok _ hix, hbits, by
          rw [e9 _ _ upd_same, List.map_set]⟩)
        obtain ⟨aw, dw, fw, rfl, hw1, hw2⟩ := id h0B
        obtain ⟨uj, hj1, hj2⟩ := hw2.look (f := "joins") (r := rD K (.tuple (J.map dTg))) rfl
        obtain ⟨ue, he1, he2⟩ := hw2.look (f := "entries") (r := rD K (.int w')) rfl
        obtain rfl := dp_int he2
        obtain ⟨aj, js, rfl, hj3, hj4⟩ := dp_tup hj2
        obtain ⟨tj, ht1, ht2⟩ := dpa_get hj4 (hJat _ hix)
        refine ⟨tj, ht2, ?_⟩
        refine Evl.ev_op (ev_ins (i := 0) rfl (eB8 _ _ hw1) T.cl_Web T.n_Web_joins hj1) (Evl.ev_is (Evl.ev_op (Evl.ev_op (Evl.ev_op (ev_ins (i := 0) rfl (eB8 _ _ hw1) T.cl_Web T.n_Web_entries he1) (Evl.ev_op (Evl.ev_var rfl) (Evl.ev_var rfl) (Evl.rv_I (.inl (by omega)))) Evl.rv_I0) (gd_int (K := K) (i := (fst3 k : Nat)) (gd_ixL (gd_v (i := 4) (r := rD K (lotsD [0, 2, 3, 4])) rfl ((rD K (lotsD [0, 2, 3, 4])).up eB8 h4B)) (Evl.ev_var rfl) (atI_nat (by rw [List.getElem?_map, hfst]; rfl)))) Evl.rv_I0) (Evl.ev_var rfl) Evl.rv_I0) (show V.int _ = V.int ((w' + p * 4 + fst3 k + (if k = 0 then bi.getD p 0 else 0) : Nat) : Int) by congr 1)) (Evl.rv_ixT (sqt_ex eB8 hj3) (atI_nat ht1))
    · rintro σ' H4 ⟨tv, bi, ti, x8, x9, x10, x11, x12, rfl, e4, htv, hw, hto, hbi, hl4⟩
      rw [h] at hw
      obtain ⟨hz1, hz2⟩ := Prod.mk.inj hw
      subst hz1 hz2
      exact g_ret (gd_if (b := true) (Evl.et_test (ev_isi (gd_v (i := 5) (r := rD K (.int (y : Nat))) rfl (dp_ex e4 _ _ htv)) ki_int_int)) (fun _ => gd_tup (ds := [.int (y : Nat), .tuple (dBits b')]) (ga_cons (gd_v (i := 5) rfl (dp_ex e4 _ _ htv)) (ga_1 (gd_tupOf (gd_v (i := 7) rfl (dBits_bits hl4)) (.inl rfl)))) (by simp)) (fun h => by cases h)) (fun v H6 e6 hv => hQ v H6 (Ex.tr eB (Ex.tr e4 e6)) hv)
/-! ### _law_answered -/
abbrev N_law_answered : List Str := ["_law_web", "_law_row", "_law_most", "_law_standings", "_law_found", "_law_entry", "_law_told"]
theorem sc_law_answered : FnScope N_law_answered ["_law_web", "_law_row", "_law_most"] (defScope s_law_answered) := ⟨rfl, rfl, rfl, by decide +kernel, rfl, by decide +kernel, by decide +kernel⟩
inductive rel_law_answered (K : PySem.W.Frag) : List Rel → Rel → Prop
  | mk (bs : List Nat) (w e : Nat) (J : List Tg) (ok : WebOk bs w e J) (xs ys : List Nat) (most : Nat) (hx : ∀ x ∈ xs, x < w) (hl : xs.length ≤ 1000) (hm : most ≤ 100000) (h : AnsW w J most bs xs ys) :
    rel_law_answered K [webR K bs w e J, rD K (lotsD xs), rV (.int (most : Nat))] (rD K (lotsD ys))
theorem ok_law_answered {P : Program} {w : World} {K : PySem.W.Frag} {mg : Str → Option Value} {base : Heap} (T : Txt K mg) : Cal P w K mg base "_law_answered" 3 ["_law_web", "_law_row", "_law_most"] [] (SpR (rel_law_answered K)) := by
  refine cal_of (st := s_law_answered) T.g__law_answered (T.d.def_ 32 rfl) (fun _ _ _ _ _ _ us hl => match us, hl with | [_, _, _], _ => rfl) sc_law_answered (fun vs H Q E hsp => by obtain ⟨rs, r, h, ha, _⟩ := hsp; rw [ha.len]; cases h <;> rfl) fun cdv A outer s H vs Q E hr hsp => ?_
  have hu := hr.units
  have hu0 := hu_of hr
  have hu65 := hu65_of hr
  refine ⟨_, (pss_cons (ps_par (i := 3) (j := 4) (by rfl) sc_law_answered.nd rfl rfl (by decide) rfl rfl (pa_cons (pe_fld (pv 0) rfl) (pa_cons (pe_lst pa_nil) pa_nil)) (by rfl))
      (pss_cons (ps_for PassesOwn.never rfl (pi_list (pv 1)) (pg_name (i := 5) sc_law_answered.nd rfl (Or.inl rfl))
      (pss_cons (ps_set (i := 6) sc_law_answered.nd rfl (Or.inl rfl) (pe_cal (ok_law_walked (P := P) (w := w) (base := base) T) (hr.mono (by decide)) rfl (pa_cons (pv 0) (pa_cons (pv 3) (pa_cons (pv 5) (pa_cons (pv 2) pa_nil))))))
      (pss_cons (ps_if (pt_cmp (pc_isN (pv 6)) rfl) (pss_one (ps_ret pe_non)) pss_nil)
      (pss_cons (ps_expr (pe_bm PySem.F.plainAttrs_list PySem.F.slot_list_append PySem.F.type_list_append mt_append (pv 4) (pa_cons (pe_ix ix_tup (pv 6) pe_int (fun _ _ => rfl)) pa_nil)))
      (pss_one (ps_set (i := 3) sc_law_answered.nd rfl (Or.inl rfl) (pe_ix ix_tup (pv 6) pe_int (fun _ _ => rfl))))))))
      (pss_one (ps_ret (pv 4))))), ?_⟩

  obtain ⟨rs, r, h, ha, hQ⟩ := hsp
  cases h with
  | mk bs w' e J ok xs ys most hx hxl hm h =>
    obtain ⟨v0, v1, v2, rfl, h0, h1, h2⟩ := alls3 ha
    obtain rfl : v2 = V.int (most : Nat) := h2
    have hyl := h.len
    refine q_parK (cons_GD (r := rD K (.tuple (dBits bs))) (gd_fld (gd_v (i := 0) rfl h0) T.cl_Web T.n_Web_begins) (fun v3 H1 e1 h3 => cons_GL (gl_lst ga_nil (by decide)) (fun l zs H2 hl e2 hl2 hzs => ⟨_, _, rfl, ?_⟩)))
    obtain rfl : zs = [] := by cases zs with | nil => rfl | cons _ _ => exact hzs.elim
    have hlH : H l = none := Evl.fresh_back e1 hl
    refine wq_for (B := H) (ms := xs) (e := fun n => rD K (.int (n : Nat))) (gw_list (f := fun n : Nat => .int (n : Nat)) (Evl.ev_var rfl) h1) (Ex.tr e1 e2) (fun i σ' H' => ∃ v3 bi x5 x6, σ' = [some v0, some v1, some (.int (most : Nat)), some v3, some (.ref l), x5, x6] ∧ Ex H H' ∧ Dp K H' v3 (.tuple (dBits bi)) ∧ BitsN bs.length bi ∧ AnsW w' J most bi (xs.drop i) (ys.drop i) ∧ H' l = some (.lst ((ys.take i).map fun n => .int (n : Nat))))
      (fun H3 e3 => ⟨v3, bs, _, _, rfl, Ex.tr e1 (Ex.tr e2 e3), dp_ex (Ex.tr e2 e3) _ _ h3, ⟨rfl, ok.b1⟩, h, e3 _ _ hl2⟩) (fun i σ' H' z => by obtain ⟨_, _, _, _, _, z, _⟩ := z; exact z) ?_ ?_
    · rintro i x xv σ' H3 hxi ⟨v3, bi, x5, x6, rfl, e3, hv3, hbi, hA, hl3⟩ hxv
      obtain rfl := dp_int hxv
      obtain ⟨hi, hxe⟩ := List.getElem?_eq_some_iff.mp hxi
      rw [List.drop_eq_getElem_cons hi, hxe, List.drop_eq_getElem_cons (show i < ys.length by omega)] at hA
      cases hA with
      | cons _ b' _ _ _ _ hw ht =>
        have hyi : ys[i]? = some (ys[i]'(by omega)) := List.getElem?_eq_getElem (by omega)
        generalize hy : ys[i]'(by omega) = y at hw hyi
        refine g_asg (r := rD K (.tuple [.int (y : Nat), .tuple (dBits b')])) (gd_call (rel := rel_law_walked K) (ga_cons (gd_v (i := 0) rfl ((webR K bs w' e J).up e3 h0)) (ga_cons (gd_v (i := 3) (r := rD K (.tuple (dBits bi))) rfl hv3) (ga_ev (Evl.ev_var rfl) (ga_ev (Evl.ev_var rfl) ga_nil)))) (.mk bs w' e J ok bi b' x y most hbi (hx x (List.mem_of_getElem? hxi)) hm hw)) (fun tv H4 e4 htv => ?_)
        obtain ⟨at_, ts, rfl, ht1, ht2⟩ := dp_tup htv
        refine Evl.q_when (b := false) (Evl.et_B (ev_isNo (Evl.ev_var rfl) rfl)) (fun h => by cases h) (fun _ H5 e5 => ?_)
        have htv5 := dp_ex e5 _ _ htv
        refine Evl.q_app (v := .int (y : Nat)) (e5 _ _ (e4 _ _ hl3)) (Evl.ev_var rfl) (gd_int (K := K) (gd_ixT (gd_v (i := 6) rfl htv5) Evl.ev_c (by rfl))) (by rw [List.length_map, List.length_take]; omega) (fun H6 e6 => ?_)
        have hu := ExB.upd l H6 (.lst (((ys.take i).map fun n => V.int (n : Nat)) ++ [.int (y : Nat)]))
        have htv6 := dp_but (fun _ _ q => sqt_but hu (noT_lst (e6 _ _ (e5 _ _ (e4 _ _ hl3)))) q) _ _ (by
          show (true && (tupOnlyAll ((dBits b')) && true)) = true
          unfold dBits
          rw [tup_all (fun _ => rfl)]
          rfl) (dp_ex e6 _ _ htv5)
        refine g_asg' (r := rD K (.tuple (dBits b'))) (gd_ixT (gd_v (i := 6) rfl htv6) Evl.ev_c (by rfl)) (fun v' H7 e7 hv' => ⟨v', b', _, _, rfl, Ex.tr (Evl.Ex.mut (Ex.tr e3 (Ex.tr e4 (Ex.tr e5 e6))) hlH) e7, hv', ?_, ht, ?_⟩)
        · have := walk_bits (w := w') (J := J) most (a := (bi, tgAt J x)) hbi
          rw [hw] at this
          exact this
        · rw [e7 _ _ upd_same, List.take_succ, hyi, List.map_append]
          rfl
    · rintro σ' H3 ⟨v3, bi, x5, x6, rfl, e3, hv3, hbi, hA, hl3⟩
      rw [← hyl, List.take_length] at hl3
      exact Evl.s_ret (Evl.ev_var rfl) (fun H4 e4 => hQ _ _ (Ex.tr e3 e4) ((rD K (lotsD ys)).up e4 (ints_but (H' := H3) hl3)))
/-! ### _law_is_laid -/
abbrev N_law_is_laid : List Str := ["_law_web", "_law_rules_here", "_law_exits"]
theorem sc_law_is_laid : FnScope N_law_is_laid ["_law_web", "_law_rules_here", "_law_exits"] (defScope s_law_is_laid) := ⟨rfl, rfl, rfl, by decide +kernel, rfl, by decide +kernel, by decide +kernel⟩
inductive rel_law_is_laid (K : PySem.W.Frag) : List Rel → Rel → Prop
  | mk (R : Rules) (e n w : Nat) (sm : Small e n w R) (g : Good (leastF R) e w) : rel_law_is_laid K [webR K (LpOf (leastF R) e w).begs w e (layF (leastF R) w), rD K (dRulesL R), rD K (.int (e : Nat))] (rV (.bl true))
theorem ok_law_is_laid {P : Program} {w : World} {K : PySem.W.Frag} {mg : Str → Option Value} {base : Heap} (T : Txt K mg) : Cal P w K mg base "_law_is_laid" 2 ["_law_web", "_law_rules_here", "_law_exits"] [] (SpR (rel_law_is_laid K)) := by
  refine cal_of (st := s_law_is_laid) T.g__law_is_laid (T.d.def_ 33 rfl) (fun _ _ _ _ _ _ us hl => match us, hl with | [_, _, _], _ => rfl) sc_law_is_laid (fun vs H Q E hsp => by obtain ⟨rs, r, h, ha, _⟩ := hsp; rw [ha.len]; cases h <;> rfl) fun cdv A outer s H vs Q E hr hsp => ?_
  have hu := hr.units
  have hu0 := hu_of hr
  have hu65 := hu65_of hr
  refine ⟨_, (pss_cons (ps_if (PW.pt (pw_or (pt_not (pt_val (pe_callB (id := "isinstance") (C8.call_isC (T.ins_Web)) (by rfl) T.f_isinstance (by decide +kernel) (pa_cons (pv 0) (pa_cons (pe_gref rfl T.g_Web) pa_nil))))) (pw_or (pt_cmpR (op_neD hu) (pe_fld (pe_fld (pv 0) rfl) rfl) (pe_tup (pa_cons pe_str (pa_cons pe_str (pa_cons pe_str pa_nil)))) (nomark _)) (pw_or1 (pt_cmpR (op_neD hu) (pe_lst (pa_cons (pe_fld (pv 0) rfl) (pa_cons (pe_fld (pv 0) rfl) pa_nil))) (pe_lst (pa_cons (pe_callB (id := "len") call_len_seq (by rfl) T.f_len PySem.boot_len (pa_cons (pe_ix ix_list (pv 1) pe_int (fun _ _ => rfl)) pa_nil)) (pa_cons (pv 2) pa_nil))) (nomark _)))))) (pss_one (ps_ret pe_bl)) pss_nil)
      (pss_cons (ps_if (PW.pt (pw_or (pt_cmpR op_ne (pe_callB (id := "len") call_len_seq (by rfl) T.f_len PySem.boot_len (pa_cons (pe_fld (pv 0) rfl) pa_nil)) (pe_fld (pv 0) rfl) (nomark _)) (pw_or1 (pt_cmpR op_ne (pe_callB (id := "len") call_len_seq (by rfl) T.f_len PySem.boot_len (pa_cons (pe_fld (pv 0) rfl) pa_nil)) (pe_op op_add (pe_fld (pv 0) rfl) (pe_op op_mul pe_int (pe_fld (pv 0) rfl))) (nomark _))))) (pss_one (ps_ret pe_bl)) pss_nil)
      (pss_one (ps_ret (pe_cmpR op_le (pe_fld (pv 0) rfl) (pe_cal (ok_law_bound (P := P) (w := w) (base := base) T) (hr.mono (by decide)) rfl (pa_cons (pe_cal (ok_law_least (P := P) (w := w) (base := base) T) (hr.mono (by decide)) rfl (pa_cons (pv 1) pa_nil)) pa_nil)) (nomark _)))))), ?_⟩

  obtain ⟨rs, r, h, ha, hQ⟩ := hsp
  cases h with
  | mk R e n w' sm g =>
    obtain ⟨v0, v1, v2, rfl, h0, h1, h2⟩ := alls3 ha
    obtain rfl := dp_int h2
    obtain ⟨S, hS⟩ : ∃ S, S = leastF R := ⟨_, rfl⟩
    rw [← hS] at h0 g
    obtain ⟨bs, hbs⟩ : ∃ bs, bs = (LpOf S e w').begs := ⟨_, rfl⟩
    have hbl : bs.length = piecesF S.length w' (arrF S).length := by rw [hbs, begs_eq, begsF_len]
    have ok : WebOk bs w' e (layF S w') := by rw [hbs]; exact g.web
    rw [← hbs] at h0
    have hn0 : 0 < n := sm.n1
    have hRn := sm.len
    have l3 : (PyData.tuple (ways3.map .str)).canLay0 = true := by decide +kernel
    have s3 : SeqAt.shaped (.tuple (ways3.map .str)) = true := by decide +kernel
    have l2 : ∀ a b : Int, (PyData.list [.int a, .int b]).canLay0 = true := fun a b => by simp [PyData.canLay0, PyData.canLayAll0]
    have s2 : ∀ a b : Int, SeqAt.shaped (.list [.int a, .int b]) = true := fun a b => shaped_of (l2 a b) (by simp [PyData.depth, PyData.depthAll])
    have hR0 : (R.map dRowL)[0]? = some (dRowL (rowAt R 0)) := by
      rw [List.getElem?_map]
      have : 0 < R.length := by omega
      simp [rowAt, List.getElem?_eq_getElem this]
    refine Evl.q_when (b := false) (Evl.et_or (a := false) (b := false) (Evl.et_not (a := true) (Evl.et_test (ev_isiC (gd_v (i := 0) rfl h0)))) (fun _ => Evl.et_or (a := false) (b := false) (Evl.et_B (Evl.ev_is (ev_neD (d := .tuple (ways3.map .str)) (e := .tuple (ways3.map .str)) (gd_fld (gd_fld (r := kindR K) (gd_v (i := 0) rfl h0) T.cl_Web T.n_Web_kind) T.cl_Kind T.n_Kind_ways) (gd_tup (ds := ways3.map .str) (ga_cons (gd_ev Evl.ev_c (.str _)) (ga_cons (gd_ev Evl.ev_c (.str _)) (ga_cons (gd_ev Evl.ev_c (.str _)) ga_nil))) (by decide)) s3 s3) (by rw [eqv_self _ l3]; rfl))) (fun _ => Evl.et_B (Evl.ev_is (ev_neD (d := .list [.int (w' : Nat), .int (e : Nat)]) (e := .list [.int (w' : Nat), .int (e : Nat)]) (gd_lst (ds := [.int (w' : Nat), .int (e : Nat)]) (ga_cons (gd_fld (gd_v (i := 0) rfl h0) T.cl_Web T.n_Web_entries) (ga_1 (gd_fld (gd_v (i := 0) rfl h0) T.cl_Web T.n_Web_exits))) (by simp)) (gd_lst (ds := [.int (w' : Nat), .int (e : Nat)]) (ga_int (Evl.ev_is (ev_lenS (d := dRowL (rowAt R 0)) (gd_ixL (ds := R.map dRowL) (gd_v (i := 1) rfl h1) Evl.ev_c (atI_nat (j := 0) hR0)) (.inl rfl)) (by rw [List.length_map, sm.rowLen hn0])) (ga_int (Evl.ev_var rfl) ga_nil)) (by simp)) (s2 _ _) (s2 _ _)) (by rw [eqv_self _ (l2 _ _)]; rfl))))) (fun h => by cases h) (fun _ H1 e1 => ?_)
    have h01 := (webR K bs w' e (layF S w')).up e1 h0
    have hb2 := ok.b2
    refine Evl.q_when (b := false) (Evl.et_or (a := false) (b := false) (Evl.et_B (Evl.ev_op (ev_lenS (gd_fld (r := rD K (.tuple (dBits bs))) (gd_v (i := 0) rfl h01) T.cl_Web T.n_Web_begins) (.inr rfl)) (gd_int (K := K) (gd_fld (gd_v (i := 0) rfl h01) T.cl_Web T.n_Web_pieces)) (rv_neI (by unfold dBits; rw [List.length_map]; simp)))) (fun _ => Evl.et_B (Evl.ev_op (ev_lenS (gd_fld (r := rD K (.tuple ((layF S w').map dTg))) (gd_v (i := 0) rfl h01) T.cl_Web T.n_Web_joins) (.inr rfl)) (Evl.ev_op (gd_int (K := K) (i := (w' : Nat)) (gd_fld (gd_v (i := 0) rfl h01) T.cl_Web T.n_Web_entries)) (Evl.ev_op Evl.ev_c (gd_int (K := K) (i := (bs.length : Nat)) (gd_fld (gd_v (i := 0) rfl h01) T.cl_Web T.n_Web_pieces)) (Evl.rv_I (.inl (by omega)))) Evl.rv_I0) (rv_neI (by
      rw [List.length_map, ok.len]
      have : ((w' + bs.length * 4 : Nat) : Int) = (w' : Int) + 4 * (bs.length : Int) := by push_cast; omega
      rw [this]
      simp))))) (fun h => by cases h) (fun _ H2 e2 => ?_)
    refine Evl.s_ret (Evl.ev_op (gd_int (K := K) (i := (bs.length : Nat)) (gd_fld (gd_v (i := 0) rfl ((webR K bs w' e (layF S w')).up e2 h01)) T.cl_Web T.n_Web_pieces)) (ev_call (rel := rel_law_bound K) (ga_1 (gd_call (rel := rel_law_least K) (ga_1 (gd_v (i := 1) rfl (dp_ex (Ex.tr e1 e2) _ _ h1))) (.mk R e n w' sm))) (by rw [← hS]; exact .mk S e S.length w' g.sm)) (rv_leT (by rw [hbl]; exact Int.le_refl _))) (fun H3 e3 => hQ _ _ (Ex.tr e1 (Ex.tr e2 e3)) rfl)
end Mk
namespace Mk
open PySem PySem.Spec PyProof.Rows L2
/-! ### a call by keywords alone -/
structure CalN (P : Program) (w : World) (K : PySem.W.Frag) (mg : Str → Option Value) (base : Heap) (x : Str) (k : Nat) (ps ks : List Str) (sp : Sp) : Prop where
  ex : ∃ (f : Addr) (fd : FuncData), mg x = some (.ref f) ∧ PySem.W.keepIn K (.ref f) = true ∧ KBn K fd ps 0 ks (fun _ ws => ws) (fun _ zs => zs) ∧ FnOk P w K mg base CX0 k f fd ps sp
theorem pe_calN {X : Cx} {x : Str} {k : Nat} {ps ks : List Str} {sp : Sp} {kws : List Keyword} {tk : TA} {p pos : Pos} (c : CalN X.prog X.w X.K X.mg X.base x k ps ks sp) (hr : Room k X.A) (hg : Gl X x) (hkw : PK X kws tk)
    (hall : (backToKw pos (keywordEach kws X.env)).all (·.1.isSome) = true := by rfl) (hks : (backToKw pos (keywordEach kws X.env)).filterMap (·.1) = ks := by rfl) (hdb : (x == ("__debug__" : Str)) = false := by decide)
    (hpl : ((backTo pos (starEach [] X.env)).any (·.1) || (backToKw pos (keywordEach kws X.env)).any (·.1.isNone)) = false := by rfl) : PE X (.Call (.Name x p) [] kws pos) (tCallN 0 ks.length sp (fun _ zs => zs) E0 tNil tk) := by
  obtain ⟨f, fd, h1, h2, h3, h4⟩ := c.ex
  refine ⟨fun pins s σ H Q I h => ?_⟩
  refine wpAny_Call_Name_kw (ld_glob I hg h1 ?_ hdb)
  refine PySem.W.callWith_KW0 (h₀ := X.base) I.ok.mod.kin h2 hall ?_ hpl
  refine thn (hkw.run pos pins s σ H _ I h) fun ws s2 ⟨zs, H2, I2, rz, l1, l2, q2⟩ => ⟨I2.kIn, ?_⟩
  rw [hks]
  exact run_fnN (us := []) (vs := []) h4 hr h3 pass0 I2 .nil rz rfl l2 q2
section
variable {P : Program} {w : World} {K : PySem.W.Frag} {mg : Str → Option Value} {base : Heap}
theorem calN_of {x : Str} {st : Stmt} {f : Addr} {N ps ks : List Str} {k : Nat} {sp : Sp} (hg : mg x = some (.ref f)) (F : ∃ fd, FunD K x x (defArgs st) (defBody st) (defScope st) [] [] f fd)
    (hb : ∀ (kV doc pm : Value) (an : Option Addr) (cdv ct : Value) (ws : List Value), ws.length = ks.length → bindArgs (PySem.W.fnOf x x (defArgs st) (defBody st) (defScope st) .none kV doc pm an cdv ct) ⟨[], ks.zip ws⟩ = pure (ps.zip ws))
    (S : FnScope N ps (defScope st)) (len : ∀ vs H Q E, sp vs H Q E → vs.length = ps.length)
    (hbody : ∀ (cdv : Value) (A : Around) (outer : List Env) (s : Shared) (H : Hp) (vs : List V) (Q : VK) (E : XK), Room k (A.deeper (envOfC x (defScope st) s.heap.objs.size f cdv)) → sp vs H Q E →
      ∃ t, PSs (cxOf CX0 P w K mg base N x (defScope st) f cdv A outer s H E).nox (defBody st) t ∧ t { nx := fun _ H' => Q .non H', rt := Q } (start N vs) H) : CalN P w K mg base x (k + 1) ps ks sp := by
  obtain ⟨fd, F⟩ := F
  have ok : FnOk P w K mg base CX0 (k + 1) f fd ps sp := F.ok S len fun cdv A outer s H vs Q E hr hsp => let ⟨t, h, q⟩ := hbody cdv A outer s H vs Q E hr hsp; ⟨t, h.nox, q⟩
  have kp := F.kp
  obtain ⟨oc, od, dV, kV, doc, pm, an, cdv, ct, osl, rfl, lk, hcd, hD, hK⟩ := F.ex
  rcases hD with ⟨_, rfl⟩ | ⟨e, _⟩
  · exact ⟨f, _, hg, kp, ⟨fun s us ws X l1 l2 => by
      have : us = [] := List.length_eq_zero_iff.mp l1
      subst this
      exact .of_eq (hb kV doc pm an cdv ct ws l2), fun _ r2 => r2⟩, ok⟩
  · exact absurd rfl e
end
/-! ### the law's own steps -/
section
variable {P : Program} {w : World} {K : PySem.W.Frag} {σ : L2.St} {H : Hp} {ta tb te : TE} {tt : TA} {D : Ends} {t tz : TS} {i : Nat} {sp : Sp} {Q : VK} {M c : Addr} {cs : List Int} {tm l : Int} {ds : List PyData}
theorem q_callE {vs : List V} (ha : Evl.EvA tt σ H vs) (k : ∀ H1, Ex H H1 → sp vs H1 (fun v H2 => tz D (σ.set i (some v)) H2) E0) : tSeq (tAsg (tCall sp [] E0 tt) (gName i)) tz D σ H := ha H Ex.rfl' _ fun H1 e1 => by
  rw [List.append_nil]
  exact k H1 e1
theorem q_tA (h : te σ H fun v H1 => tz D (σ.set i (some v)) H1) : tSeq (tAsg te (gName i)) tz D σ H := h
theorem s_tA (h : te σ H fun v H1 => D.nx (σ.set i (some v)) H1) : tAsg te (gName i) D σ H := h
/-- a word between a statement and the rest -/
theorem q_step (Mid : L2.St → Hp → Prop) (h2 : ∀ σ' H', Mid σ' H' → tz D σ' H') (h1 : (∀ σ' H', Mid σ' H' → tz D σ' H') → t { D with nx := tz D } σ H) : tSeq t tz D σ H := h1 h2
theorem t_pick (hM : Evl.Ev ta σ H (.ref M)) (hl : GL tb σ H (ds.map (rD K))) (m : Mill M c cs tm l H) (ht : tm ≤ 1000000) (tu : tupOnlyAll ds = true) (h1 : 1 ≤ ds.length) (h2 : ds.length ≤ 1000)
    (k : ∀ (j : Nat) (t' l' : Int) (d : PyData) (v : V) (H' : Hp), ExB M H H' → Mill M c cs t' l' H' → t' ≤ tm + 1 → ds[j]? = some d → Dp K H' v d → Q v H') : tCall (SpPick P w K) [] E0 (tCons ta (tCons tb tNil)) σ H Q :=
  hM H Ex.rfl' _ fun H1 e1 => hl H1 e1 _ fun pl xs H2 hpl e2 hpl2 hxs => ⟨M, c, cs, tm, l, pl, xs, ds, rfl, (m.ex e1).ex e2, ht, hpl2, (fun z => by rw [z, (m.ex e1).at_] at hpl; cases hpl), hxs.data, tu, h1, h2,
    fun j t' l' d v H' b m' ht' hj hv => k j t' l' d v H' ((Ex.but (Ex.tr e1 e2)).tr b) m' ht' hj hv⟩
theorem t_cog {many : Nat} (hM : Evl.Ev ta σ H (.ref M)) (hm : Evl.Ev tb σ H (.int (many : Nat))) (m : Mill M c cs tm l H) (h1 : 1 ≤ many) (h2 : many ≤ 1000000) (ht : tm ≤ 1000000)
    (k : ∀ (j : Nat) (t' l' : Int) (H' : Hp), ExB M H H' → Mill M c cs t' l' H' → t' ≤ tm + 1 → j < many → Q (.int (j : Nat)) H') : tCall (SpCog P w K) [] E0 (tCons ta (tCons tb tNil)) σ H Q :=
  call_sp (vs := [.ref M, .int (many : Nat)]) (Evl.ea_cons hM (Evl.ea_cons hm Evl.ea_nil)) fun H1 e1 => ⟨M, c, cs, tm, l, many, rfl, m.ex e1, h1, h2, ht, fun j t' l' H' b m' ht' hj => k j t' l' H' ((Ex.but e1).tr b) m' ht' hj⟩
/-- a, b = rules[..][..] -/
theorem q_ruleK {p : Rule} {i j : Nat} (h : GD te σ H (rD K (dRule p))) (k : ∀ H1, Ex H H1 → tz D ((σ.set i (some (.int (p.1 : Nat)))).set j (some (.int (p.2 : Nat)))) H1) : tSeq (tAsg te (gTup K 2 (gCons (gName i) (gCons (gName j) gNil)))) tz D σ H :=
  h H Ex.rfl' _ fun v H1 e1 hv => gtup2 (show Dp K H1 v (.tuple [.int (p.1 : Nat), .int (p.2 : Nat)]) from hv) fun x1 x2 h1 h2 => by
    obtain rfl := dp_int h1
    obtain rfl := dp_int h2
    exact k H1 e1
theorem yes_if {A B : Hp → Prop} (h : A H) : tYes σ H (fun b H3 => if b = true then A H3 else B H3) := by
  show (if true = true then A H else B H)
  rw [if_pos rfl]
  exact h
theorem gp {a b : Int} : GD (tTup (tCons (tC (.int a)) (tCons (tC (.int b)) tNil))) σ H (rD K (.tuple [.int a, .int b])) := gd_tup (ds := [.int a, .int b]) (ga_int Evl.ev_c (ga_int Evl.ev_c ga_nil)) (by simp)
/-- a != b of two webs that are equal -/
theorem ev_neWeb {bs : List Nat} {w' e : Nat} {J : List Tg} (ha : GD ta σ H (webR K bs w' e J)) (hb : GD tb σ H (webR K bs w' e J)) : Evl.Ev (tOp (rNeOwn (He.ga K "Web") (SpR (rel_Web_eq K))) ta tb) σ H (.bl false) := fun H1 e1 Q q =>
  ha H1 e1 _ fun x H2 e2 hx => hb H2 (Ex.tr e1 e2) _ fun y H3 e3 hy => by
    have hx3 := (webR K bs w' e J).up e3 hx
    obtain ⟨a, dx, fs, rfl, h1, h2⟩ := id hx3
    obtain ⟨b, dy, gs, rfl, h3, h4⟩ := id hy
    exact ⟨a, b, dx, dy, fs, gs, rfl, rfl, h1, h3, _, _, .mk bs w' e J, ⟨hx3, hy, trivial⟩, fun v H4 e4 hv => ⟨true, hv, q H4 (Ex.tr e2 (Ex.tr e3 e4))⟩⟩
end
/-! ### the sizes that are drawn -/
def szs1 : List (Nat × Nat) := [(2, 2), (3, 2), (2, 3), (4, 1), (1, 3), (3, 3), (5, 2), (2, 4)]
def szs2 : List (Nat × Nat) := [(2, 6), (9, 1), (4, 3), (7, 2), (6, 1), (3, 5)]
abbrev SzOk (q : Nat × Nat) : Prop := 1 ≤ q.1 ∧ q.1 ≤ 9 ∧ 1 ≤ q.2 ∧ q.2 ≤ 6 ∧ q.1 * q.2 ≤ 15
theorem szs1_ok : ∀ q ∈ szs1, SzOk q := by decide
theorem szs2_ok : ∀ q ∈ szs2, SzOk q := by decide
theorem sz_of {l : List (Nat × Nat)} (h : ∀ q ∈ l, SzOk q) {j : Nat} {d : PyData} (hd : (l.map dP2)[j]? = some d) : ∃ n w, d = dP2 (n, w) ∧ SzOk (n, w) := by
  rw [List.getElem?_map] at hd
  cases q : l[j]? with
  | none => rw [q] at hd; cases hd
  | some p =>
    rw [q] at hd
    cases hd
    exact ⟨p.1, p.2, rfl, h p (List.mem_of_getElem? q)⟩
theorem nat_of {l : List Nat} {j : Nat} {d : PyData} (hd : (l.map fun n => PyData.int (n : Nat))[j]? = some d) : ∃ n ∈ l, d = .int (n : Nat) := by
  rw [List.getElem?_map] at hd
  cases q : l[j]? with
  | none => rw [q] at hd; cases hd
  | some p =>
    rw [q] at hd
    cases hd
    exact ⟨p, List.mem_of_getElem? q, rfl⟩
def SpLaw (K : PySem.W.Frag) : Sp := fun vs H Q E => ∃ (a : Addr) (ns : List Int), vs = [.ref a] ∧ SqL K H a (ns.map V.int) ∧ ns.length ≤ 1000 ∧ ∀ H', Q (.bl true) H'
theorem dueF_cons {R : Rules} {s x : Nat} {xs : List Nat} : dueF R s (x :: xs) = (ruleAt R s x).1 :: dueF R (ruleAt R s x).2 xs := rfl
theorem dueF_len {R : Rules} : ∀ (xs : List Nat) (s : Nat), (dueF R s xs).length = xs.length
  | [], _ => rfl
  | x :: xs, s => by rw [dueF_cons, List.length_cons, List.length_cons, dueF_len xs]
theorem lay_ints (l : List Nat) : (lotsD l).canLay0 = true := by
  show (PyData.list (l.map fun n => .int (n : Nat))).canLay0 = true
  simp only [PyData.canLay0]
  exact lay_all (fun n => lay_int _) l
theorem shaped_ints (l : List Nat) : SeqAt.shaped (lotsD l) = true := shaped_list (fun n : Nat => lay_int n) (fun n => dep_int n) l
end Mk
namespace Mk
open PySem PySem.Spec PyProof.Rows L2

/-! ### law -/
theorem okk_every_web {P : Program} {w : World} {K : PySem.W.Frag} {mg : Str → Option Value} {base : Heap} (T : Txt K mg) (hP : P.main = theP.main) : CalN P w K mg base "every_web" 10 ["table"] ["table"] (SpR (rel_every_web K)) := by
  refine calN_of (st := s_every_web) T.g_every_web (T.d.def_ 22 rfl) (fun _ _ _ _ _ _ us hl => match us, hl with | [_], _ => rfl) sc_every_web (fun vs H Q E hsp => by obtain ⟨rs, r, h, ha, _⟩ := hsp; rw [ha.len]; cases h <;> rfl) fun cdv A outer s H vs Q E hr hsp => ?_
  have hu := hr.units
  have hu0 := hu_of hr
  have hu65 := hu65_of hr
  refine ⟨_, (pss_cons (ps_expr (pe_cal (ok_need_table (P := P) (w := w) (base := base) T) (hr.mono (by decide)) rfl (pa_cons (pv 0) pa_nil)))
      (pss_cons (ps_set (i := 1) sc_every_web.nd rfl (Or.inl rfl) (pe_cal (ok_least_in (P := P) (w := w) (base := base) T) (hr.mono (by decide)) rfl (pa_cons (pv 0) pa_nil)))
      (pss_cons (ps_if (pt_cmpR op_gt (pe_cal (ok_pieces_for (P := P) (w := w) (base := base) T) (hr.mono (by decide)) rfl (pa_cons (pe_fld (pv 1) rfl) (pa_cons (pe_fld (pv 1) rfl) (pa_cons (pe_callB (id := "len") call_len_seq (by rfl) T.f_len PySem.boot_len (pa_cons (pe_cal (ok_arrivals_of (P := P) (w := w) (base := base) T) (hr.mono (by decide)) rfl (pa_cons (pv 1) (pa_cons (pe_lst (pa_cons pe_int pa_nil)) pa_nil))) pa_nil)) pa_nil)))) (pe_gint rfl T.i_MOST_PIECES) (nomark _)) (pss_one ps_never) pss_nil)
      (pss_one (ps_ret (pe_ix ix_list (pe_cal (ok_laid_every (P := P) (w := w) (base := base) T hP) (hr.mono (by decide)) rfl (pa_cons (pv 1) (pa_cons (pe_lst (pa_cons pe_int pa_nil)) pa_nil))) pe_int (fun _ _ => rfl))))))), ?_⟩

  obtain ⟨rs, r, h, ha, hQ⟩ := hsp
  cases h with
  | mk R e n w' sm g =>
    obtain ⟨v0, rfl, h0⟩ := alls1 ha
    refine Evl.q_drop (v := .non) (ev_call1 (rel := rel_need_table K) (ga_1 (gd_v (i := 0) (r := tabR K e n w' R) rfl h0)) (.mk _)) (fun H1 e1 => ?_)
    refine g_asg (r := tabR K e (leastF R).length w' (leastF R)) (gd_call (ga_1 (gd_v (i := 0) (r := tabR K e n w' R) rfl ((tabR K e n w' R).up e1 h0))) (.mk R e n w' sm)) (fun v1 H2 e2 hv1 => ?_)
    have hz0 : ∀ (σ : L2.St) H3, GD (tLst (tCons (tC (.int 0)) tNil)) σ H3 (rD K (.list [.int 0])) := fun σ H3 => gd_lst (ds := [.int 0]) (ga_int (i := 0) Evl.ev_c ga_nil) (by decide)
    have ml : (arrF (leastF R)).length ≤ 400 := g.lay.a2
    have ml1 : 1 ≤ (arrF (leastF R)).length := g.lay.a1
    refine Evl.q_when (b := false) (Evl.et_B (Evl.ev_op (ev_call (rel := rel_pieces_for K) (ga_cons (gd_fld (r := rD K (.int (leastF R).length)) (gd_v (i := 1) rfl hv1) T.cl_Table T.n_Table_standings) (ga_cons (gd_fld (r := rD K (.int w')) (gd_v (i := 1) rfl hv1) T.cl_Table T.n_Table_ways) (ga_cons (gd_ev (v := .int ((arrF (leastF R)).length : Nat)) (Evl.ev_is (ev_lenS (gd_to (r' := rD K (.list ((arrF (leastF R)).map dArr))) (gd_call (rel := rel_arrivals_of K) (ga_cons (gd_v (i := 1) rfl hv1) (ga_1 (hz0 _ _))) (.mk (leastF R) e (leastF R).length w' g.sm)) (fun _ _ _ q => rLm_D q)) (.inl rfl)) (by rw [List.length_map])) (r := rD K (.int ((arrF (leastF R)).length : Nat))) (.int _)) ga_nil))) (.mk _ _ _ g.sm.n2 ⟨g.sm.w1, g.sm.w2⟩ ⟨ml1, by omega⟩)) Evl.ev_c (rv_gtF (by have := g.pc; omega)))) (fun h => by cases h) (fun _ H3 e3 => ?_)
    exact g_ret (gd_ixLr (i := 0) (gd_call (rel := rel_laid_every K) (ga_cons (gd_v (i := 1) rfl ((tabR K e (leastF R).length w' (leastF R)).up e3 hv1)) (ga_1 (hz0 _ _))) (.mk (leastF R) e w' g)) Evl.ev_c rfl) (fun v H4 e4 hv => hQ v H4 (Ex.tr e1 (Ex.tr e2 (Ex.tr e3 e4))) hv)
abbrev N_law : List Str := ["_law_script", "_law_mill_here", "_law_turn", "_law_size", "_law_exits", "_law_rules_here", "_law_table", "_law_web", "_law_lap", "_law_row", "_law_entry", "_law_standing", "_law_due", "_law_way", "_law_out"]
theorem sc_law : FnScope N_law ["_law_script"] (defScope s_law) := ⟨rfl, rfl, rfl, by decide +kernel, rfl, by decide +kernel, by decide +kernel⟩
theorem ok_law {P : Program} {w : World} {K : PySem.W.Frag} {mg : Str → Option Value} {base : Heap} (T : Txt K mg) (hP : P.main = theP.main) {f : Addr} {fd : FuncData} (F : FunD K "law" "law" (defArgs s_law) (defBody s_law) (defScope s_law) [] [] f fd) : FnOk P w K mg base CX0 11 f fd ["_law_script"] (SpLaw K) := by
  obtain ⟨fdq, FOq, bq⟩ := ok_Web_eq (P := P) (w := w) (base := base) T
  refine F.ok sc_law (fun vs H Q E hsp => by obtain ⟨_, _, rfl, _⟩ := hsp; rfl) fun cdv A outer s H vs Q E hr hsp => ?_
  suffices hh : ∃ t, PSs (cxOf CX0 P w K mg base N_law "law" (defScope s_law) f cdv A outer s H E).nox (defBody s_law) t ∧ t { nx := fun _ H' => Q .non H', rt := Q } (start N_law vs) H from let ⟨t, h, q⟩ := hh; ⟨t, h.nox, q⟩
  have hu := hr.units
  have hu0 := hu_of hr
  have hu65 := hu65_of hr
  refine ⟨_, (pss_cons (ps_set (i := 1) sc_law.nd rfl (Or.inr rfl) (pe_cal (ok_law_mill (P := P) (w := w) (base := base) T) (hr.mono (by decide)) rfl (pa_cons (pv 0) pa_nil)))
      (pss_cons (ps_for PassesOwn.never rfl (pi_range1 rfl T.f_range (pa_cons pe_int pa_nil)) (pg_name (i := 2) sc_law.nd rfl (Or.inl rfl))
      (pss_cons (ps_set (i := 3) sc_law.nd rfl (Or.inr rfl) (pe_cal (ok_law_pick (P := P) (w := w) (base := base) T) (hr.mono (by decide)) rfl (pa_cons (pv 1) (pa_cons (pe_lst (pa_cons (pe_tup (pa_cons pe_int (pa_cons pe_int pa_nil))) (pa_cons (pe_tup (pa_cons pe_int (pa_cons pe_int pa_nil))) (pa_cons (pe_tup (pa_cons pe_int (pa_cons pe_int pa_nil))) (pa_cons (pe_tup (pa_cons pe_int (pa_cons pe_int pa_nil))) (pa_cons (pe_tup (pa_cons pe_int (pa_cons pe_int pa_nil))) (pa_cons (pe_tup (pa_cons pe_int (pa_cons pe_int pa_nil))) (pa_cons (pe_tup (pa_cons pe_int (pa_cons pe_int pa_nil))) (pa_cons (pe_tup (pa_cons pe_int (pa_cons pe_int pa_nil))) pa_nil))))))))) pa_nil))))
      (pss_cons (ps_if (pt_cmpR op_eq (pe_cal (ok_law_cog (P := P) (w := w) (base := base) T) (hr.mono (by decide)) rfl (pa_cons (pv 1) (pa_cons pe_int pa_nil))) pe_int (nomark _)) (pss_one (ps_set (i := 3) sc_law.nd rfl (Or.inr rfl) (pe_cal (ok_law_pick (P := P) (w := w) (base := base) T) (hr.mono (by decide)) rfl (pa_cons (pv 1) (pa_cons (pe_lst (pa_cons (pe_tup (pa_cons pe_int (pa_cons pe_int pa_nil))) (pa_cons (pe_tup (pa_cons pe_int (pa_cons pe_int pa_nil))) (pa_cons (pe_tup (pa_cons pe_int (pa_cons pe_int pa_nil))) (pa_cons (pe_tup (pa_cons pe_int (pa_cons pe_int pa_nil))) (pa_cons (pe_tup (pa_cons pe_int (pa_cons pe_int pa_nil))) (pa_cons (pe_tup (pa_cons pe_int (pa_cons pe_int pa_nil))) pa_nil))))))) pa_nil))))) pss_nil)
      (pss_cons (ps_set (i := 4) sc_law.nd rfl (Or.inl rfl) (pe_cal (ok_law_pick (P := P) (w := w) (base := base) T) (hr.mono (by decide)) rfl (pa_cons (pv 1) (pa_cons (pe_lst (pa_cons pe_int (pa_cons pe_int (pa_cons pe_int (pa_cons pe_int pa_nil))))) pa_nil))))
      (pss_cons (ps_set (i := 5) sc_law.nd rfl (Or.inl rfl) (pe_cal (ok_law_rules (P := P) (w := w) (base := base) T) (hr.mono (by decide)) rfl (pa_cons (pv 1) (pa_cons (pe_ix ix_tup (pv 3) pe_int (fun _ _ => rfl)) (pa_cons (pe_ix ix_tup (pv 3) pe_int (fun _ _ => rfl)) (pa_cons (pv 4) pa_nil))))))
      (pss_cons (ps_set (i := 6) sc_law.nd rfl (Or.inl rfl) (pe_calI (ok_Table_init (P := P) (w := w) (base := base) T) (hr.mono (by decide)) rfl (pa_cons (pv 4) (pa_cons (pv 5) pa_nil))))
      (pss_cons (ps_set (i := 7) sc_law.nd rfl (Or.inl rfl) (pe_ifExp (pt_cmpR op_eq (pe_cal (ok_law_cog (P := P) (w := w) (base := base) T) (hr.mono (by decide)) rfl (pa_cons (pv 1) (pa_cons pe_int pa_nil))) pe_int (nomark _)) (pe_cal (ok_every_web (P := P) (w := w) (base := base) T hP) (hr.mono (by decide)) rfl (pa_cons (pv 6) pa_nil)) (pe_calN (okk_every_web (P := P) (w := w) (base := base) T hP) (hr.mono (by decide)) rfl (pk_cons (pv 6) pk_nil))))
      (pss_cons (ps_if (PW.pt (pw_or (pt_not (pt_val (pe_cal (ok_law_is_laid (P := P) (w := w) (base := base) T) (hr.mono (by decide)) rfl (pa_cons (pv 7) (pa_cons (pv 5) (pa_cons (pv 4) pa_nil)))))) (pw_or1 (pt_cmpR (op_neOwn T.eqne FOq (hr.mono (by decide)) bq) (pe_cal (ok_every_web (P := P) (w := w) (base := base) T hP) (hr.mono (by decide)) rfl (pa_cons (pe_calI (ok_Table_init (P := P) (w := w) (base := base) T) (hr.mono (by decide)) rfl (pa_cons (pv 4) (pa_cons (pe_callTy (T := "tuple") call_tuple_of (by rfl) T.f_tuple (by decide +kernel) (pa_cons (pv 5) pa_nil)) pa_nil))) pa_nil)) (pv 7) (nomark _))))) (pss_one (ps_ret pe_bl)) pss_nil)
      (pss_one (ps_for PassesOwn.never rfl (pi_range1 rfl T.f_range (pa_cons pe_int pa_nil)) (pg_name (i := 8) sc_law.nd rfl (Or.inl rfl))
      (pss_cons (ps_setLc (i := 9) rfl sc_law.nd rfl rfl (sw_true rfl rfl rfl (by decide +kernel)) (pi_range1 rfl T.f_range (pa_cons (pe_cal (ok_law_pick (P := P) (w := w) (base := base) T) (hr.mono (by decide)) rfl (pa_cons (pv 1) (pa_cons (pe_lst (pa_cons pe_int (pa_cons pe_int (pa_cons pe_int (pa_cons pe_int (pa_cons pe_int pa_nil)))))) pa_nil))) pa_nil)) (blkOk_by (own := [("_law_entry", 10)]) rfl) (fun _ _ _ _ _ => (pg_name (i := 10) sc_law.nd rfl (Or.inl rfl))) (fun _ _ _ _ _ => pts_nil) (fun _ _ _ _ _ => (pe_cal (ok_law_cog (P := P) (w := w) (base := base) T) (hr.mono (by decide)) rfl (pa_cons (pv 1) (pa_cons (show PE _ _ (tOp (rIxT K) _ _) from (pe_ix ix_tup (pv 3) pe_int (fun _ _ => rfl))) pa_nil)))))
      (pss_cons (ps_par (i := 11) (j := 12) (by rfl) sc_law.nd rfl rfl (by decide) rfl rfl (pa_cons pe_int (pa_cons (pe_lst pa_nil) pa_nil)) (by rfl))
      (pss_cons (ps_for PassesOwn.never rfl (pi_list (pv 9)) (pg_name (i := 13) sc_law.nd rfl (Or.inl rfl))
      (pss_cons (ps_asg (pe_ix ix_list (pe_ix ix_list (pv 5) (pv 11) (fun _ _ => rfl)) (pv 13) (fun _ _ => rfl)) (pg_tup rfl (pgs_cons (pg_name (i := 14) sc_law.nd rfl (Or.inl rfl)) (pgs_cons (pg_name (i := 11) sc_law.nd rfl (Or.inl rfl)) pgs_nil))))
      (pss_one (ps_expr (pe_bm PySem.F.plainAttrs_list PySem.F.slot_list_append PySem.F.type_list_append mt_append (pv 12) (pa_cons (pv 14) pa_nil))))))
      (pss_one (ps_if (pt_cmpR (op_neD hu) (pe_cal (ok_law_answered (P := P) (w := w) (base := base) T) (hr.mono (by decide)) rfl (pa_cons (pv 7) (pa_cons (pv 9) (pa_cons pe_int pa_nil)))) (pv 12) (nomark _)) (pss_one (ps_ret pe_bl)) pss_nil)))))))))))))))
      (pss_one (ps_ret pe_bl)))), ?_⟩

  obtain ⟨a0, ns, rfl, hS, hnl, hQ⟩ := hsp
  have h0 : Dp K H (.ref a0) (.list (ns.map .int)) := .lst hS (dpa_ints ns)
  refine q_callE (vs := [.ref a0]) (Evl.ea_cons (Evl.ev_var rfl) Evl.ea_nil) (fun H1 e1 => ⟨.ref a0, ns, rfl, dp_ex e1 _ _ h0, hnl, fun M c H2 hM e2 m2 => ?_⟩)
  obtain ⟨cs, hcs⟩ : ∃ cs, cs = ns.take 60 := ⟨_, rfl⟩
  rw [← hcs] at m2
  refine qr_forq (n := 2) Evl.ev_c (by decide) (fun i σ' H' => ∃ (x2 x3 x4 x5 x6 x7 x8 x9 x10 x11 x12 x13 x14 : Option V) (t l : Int), σ' = [some (.ref a0), some (.ref M), x2, x3, x4, x5, x6, x7, x8, x9, x10, x11, x12, x13, x14] ∧ Mill M c cs t l H' ∧ t ≤ 1000 * (i : Int)) (fun H3 e3 => ⟨_, _, _, _, _, _, _, _, _, _, _, _, _, 0, 0, rfl, m2.ex e3, by simp⟩) ?_ (fun σ' H3 _ => Evl.s_ret Evl.ev_c (fun H4 _ => hQ H4))
  rintro i σ' H3 hi ⟨x2, x3, x4, x5, x6, x7, x8, x9, x10, x11, x12, x13, x14, t, l, rfl, m3, ht⟩
  -- the size
  refine q_tA (t_pick (ds := szs1.map dP2) (Evl.ev_var rfl) (gl_lst (ga_cons gp (ga_cons gp (ga_cons gp (ga_cons gp (ga_cons gp (ga_cons gp (ga_cons gp (ga_cons gp ga_nil)))))))) (by rw [List.length_map]; decide)) m3 (by omega) (tup_all tup_P2 _) (by decide) (by decide) (fun k t1 l1 d v H4 b4 m4 ht4 hk hv => ?_))
  obtain ⟨n, w', rfl, hsz⟩ := sz_of szs1_ok hk
  refine q_step (fun σ' H' => ∃ (v : V) (n w' : Nat) (t1 l1 : Int), σ' = [some (.ref a0), some (.ref M), some (.int (i : Nat)), some v, x4, x5, x6, x7, x8, x9, x10, x11, x12, x13, x14] ∧ Mill M c cs t1 l1 H' ∧ t1 ≤ t + 3 ∧ Dp K H' v (dP2 (n, w')) ∧ SzOk (n, w')) ?_ (fun rest => ?_)
  rotate_left
  · refine t_cog (many := 8) (Evl.ev_var rfl) Evl.ev_c m4 (by decide) (by decide) (by omega) (fun j t2 l2 H5 b5 m5 ht5 hj => ⟨rfl, _, rfl, if_K (fun _ => ?_) (fun _ => ?_)⟩)
    · refine s_tA (t_pick (ds := szs2.map dP2) (Evl.ev_var rfl) (gl_lst (ga_cons gp (ga_cons gp (ga_cons gp (ga_cons gp (ga_cons gp (ga_cons gp ga_nil)))))) (by rw [List.length_map]; decide)) m5 (by omega) (tup_all tup_P2 _) (by decide) (by decide) (fun k t3 l3 d v H6 b6 m6 ht6 hk hv => ?_))
      obtain ⟨n, w', rfl, hsz⟩ := sz_of szs2_ok hk
      exact rest _ _ ⟨v, n, w', t3, l3, rfl, m6, by omega, hv, hsz⟩
    · exact rest _ _ ⟨v, n, w', t2, l2, rfl, m5, by omega, dp_butM m4 b5 (tup_P2 _) hv, hsz⟩
  clear hv hsz b4 m4 ht4 hk v n w' t1 l1 H4 k
  rintro σ' H4 ⟨v, n, w', t1, l1, rfl, m4, ht4, hv, hsz⟩
  obtain ⟨hn1, hn9, hw1, hw6, hnw⟩ := hsz
  have hn1 : 1 ≤ n := hn1
  have hn9 : n ≤ 9 := hn9
  have hw1 : 1 ≤ w' := hw1
  have hw6 : w' ≤ 6 := hw6
  have hnw : n * w' ≤ 15 := hnw
  -- the exits
  refine q_tA (t_pick (ds := ([2, 3, 1, 4] : List Nat).map fun n => .int (n : Nat)) (Evl.ev_var rfl) (gl_lst (ga_cons (gd_ev Evl.ev_c (.int _)) (ga_cons (gd_ev Evl.ev_c (.int _)) (ga_cons (gd_ev Evl.ev_c (.int _)) (ga_cons (gd_ev Evl.ev_c (.int _)) ga_nil)))) (by rw [List.length_map]; decide)) m4 (by omega) (tup_all (fun _ => rfl) _) (by decide) (by decide) (fun k t2 l2 d ve H5 b5 m5 ht5 hk hve => ?_))
  obtain ⟨e, he, rfl⟩ := nat_of hk
  have he14 : 1 ≤ e ∧ e ≤ 4 := by
    simp only [List.mem_cons, List.not_mem_nil, or_false] at he
    omega
  obtain rfl := dp_int hve
  have hv5 := dp_butM m4 b5 (tup_P2 _) hv
  -- the rules
  refine q_callE (vs := [.ref M, .int (n : Nat), .int (w' : Nat), .int (e : Nat)]) (Evl.ea_cons (Evl.ev_var rfl) (Evl.ea_cons (gd_int (K := K) (gd_ixT (gd_v (i := 3) (r := rD K (dP2 (n, w'))) rfl hv5) Evl.ev_c (by rfl))) (Evl.ea_cons (gd_int (K := K) (gd_ixT (gd_v (i := 3) (r := rD K (dP2 (n, w'))) rfl hv5) Evl.ev_c (by rfl))) (Evl.ea_cons (Evl.ev_var rfl) Evl.ea_nil)))) (fun H6 e6 => ⟨M, c, cs, t2, l2, n, w', e, rfl, m5.ex e6, by omega, hn1, by omega, by omega, he14.1, by omega, fun R t3 l3 v5 H7 b7 m7 ht7 okR hR => ?_⟩)
  have hnw3 : n * w' * 3 ≤ 45 := by omega
  have hv7 := dp_butM (m5.ex e6) b7 (tup_P2 _) (dp_ex e6 _ _ hv5)
  have sm : Small e n w' R := { toOkR := okR, e1 := he14.1, e2 := by omega, n1 := hn1, n2 := by omega, w1 := hw1, w2 := hw6 }
  have gd := good_least okR hn1 hn9 hw1 hw6 he14.1 (by omega) hnw
  -- the table
  refine g_asg (r := tabR K e n w' R) (gd_make (F := tabF K e n w' R) (rs := [rD K (.int (e : Nat)), rD K (dRulesL R)]) (ga_int (Evl.ev_var rfl) (ga_1 (gd_v (i := 5) rfl (rRules_D hR)))) (.mk _ R e n w' (.inl rfl) sm)) (fun v6 H8 e8 hT => ?_)
  have m8 := m7.ex e8
  have hR8 := (rRules K M R).up e8 hR
  have hv8 := dp_ex e8 _ _ hv7
  clear hv7 hR m7 hv5 hv m4 m5 hve b5 b7 e6 e8
  -- the web
  obtain ⟨bs, hbs⟩ : ∃ bs, bs = (LpOf (leastF R) e w').begs := ⟨_, rfl⟩
  obtain ⟨J, hJ⟩ : ∃ J, J = layF (leastF R) w' := ⟨_, rfl⟩
  refine q_step (fun σ' H' => ∃ (v7 : V) (t4 l4 : Int), σ' = [some (.ref a0), some (.ref M), some (.int (i : Nat)), some v, some (.int (e : Nat)), some v5, some v6, some v7, x8, x9, x10, x11, x12, x13, x14] ∧ Mill M c cs t4 l4 H' ∧ t4 ≤ t + 100 ∧ Dp K H' v (dP2 (n, w')) ∧ (rRules K M R).on v5 H' ∧ (webR K bs w' e J).on v7 H') ?_ (fun rest => ?_)
  rotate_left
  · refine t_cog (many := 2) (Evl.ev_var rfl) Evl.ev_c m8 (by decide) (by decide) (by omega) (fun j t4 l4 H9 b9 m9 ht9 hj => ⟨rfl, _, rfl, if_K (fun _ => ?_) (fun _ => ?_)⟩)
    all_goals have hT9 := but_tab _ _ _ _ _ m8.at_ b9 hT
    all_goals have hR9 := rRules_but m8.at_ b9 hR8
    all_goals have hv9 := dp_butM m8 b9 (tup_P2 _) hv8
    · refine gd_call (rel := rel_every_web K) (ga_1 (gd_v (i := 6) rfl hT9)) (.mk R e n w' sm gd) H9 Ex.rfl' _ (fun v7 H10 e10 hW => rest _ _ ⟨v7, t4, l4, rfl, m9.ex e10, by omega, dp_ex e10 _ _ hv9, (rRules K M R).up e10 hR9, by rw [hbs, hJ]; exact hW⟩)
    · refine Evl.ev_var (i := 6) (v := v6) rfl H9 Ex.rfl' _ (fun H10 e10 => ⟨rfl, rfl, [tabR K e n w' R], _, .mk R e n w' sm gd, ⟨(tabR K e n w' R).up e10 hT9, trivial⟩, fun v7 H11 e11 hW => rest _ _ ⟨v7, t4, l4, rfl, (m9.ex e10).ex e11, by omega, dp_ex (Ex.tr e10 e11) _ _ hv9, (rRules K M R).up (Ex.tr e10 e11) hR9, by rw [hbs, hJ]; exact hW⟩⟩)
  clear hv8 hR8 hT m8 ht7 t3 l3 H8 H7 H6 H5
  rintro σ' H5 ⟨v7, t3, l3, rfl, m5, ht5', hv5, hR5, hW5⟩
  -- it is laid; asked again it is the same
  refine Evl.q_when (b := false) (Evl.et_or (a := false) (b := false) (Evl.et_not (a := true) (Evl.et_test (ev_call (rel := rel_law_is_laid K) (ga_cons (r := webR K (LpOf (leastF R) e w').begs w' e (layF (leastF R) w')) (gd_v (i := 7) rfl (by rw [← hbs, ← hJ]; exact hW5)) (ga_cons (gd_v (i := 5) (r := rD K (dRulesL R)) rfl (rRules_D hR5)) (ga_int (Evl.ev_var rfl) ga_nil))) (.mk R e n w' sm gd)))) (fun _ => Evl.et_B (ev_neWeb (bs := (LpOf (leastF R) e w').begs) (w' := w') (e := e) (J := layF (leastF R) w') (gd_call (rel := rel_every_web K) (ga_1 (gd_make (F := tabF K e n w' R) (rs := [rD K (.int (e : Nat)), rD K (.tuple (R.map dRowL))]) (ga_int (Evl.ev_var rfl) (ga_1 (gd_tupOf (d := dRulesL R) (gd_v (i := 5) rfl (rRules_D hR5)) (.inl rfl)))) (.mk _ R e n w' (.inr rfl) sm))) (.mk R e n w' sm gd)) (gd_v (i := 7) rfl (by rw [← hbs, ← hJ]; exact hW5))))) (fun h => by cases h) (fun _ H6 e6 => ?_)
  have m6 := m5.ex e6
  have hv6 := dp_ex e6 _ _ hv5
  have hR6 := (rRules K M R).up e6 hR5
  have hW6 := (webR K bs w' e J).up e6 hW5
  clear m5 hv5 hR5 hW5 e6
  -- two rows
  refine qr_for (n := 2) Evl.ev_c (by decide) (fun j σ' H' => ∃ (x8 x9 x10 x11 x12 x13 x14 : Option V) (t4 l4 : Int), σ' = [some (.ref a0), some (.ref M), some (.int (i : Nat)), some v, some (.int (e : Nat)), some v5, some v6, some v7, x8, x9, x10, x11, x12, x13, x14] ∧ Mill M c cs t4 l4 H' ∧ t4 ≤ t + 100 + 50 * (j : Int) ∧ Dp K H' v (dP2 (n, w')) ∧ (rRules K M R).on v5 H' ∧ (webR K bs w' e J).on v7 H') (fun H7 e7 => ⟨_, _, _, _, _, _, _, t3, l3, rfl, m6.ex e7, by omega, dp_ex e7 _ _ hv6, (rRules K M R).up e7 hR6, (webR K bs w' e J).up e7 hW6⟩) ?_ (fun σ' H7 ⟨x8, x9, x10, x11, x12, x13, x14, t4, l4, hσ, m7, ht7, _⟩ => by
    subst hσ
    exact ⟨_, _, _, _, _, _, _, _, _, _, _, _, _, t4, l4, rfl, m7, by omega⟩)
  rintro j σ' H7 hj ⟨x8, x9, x10, x11, x12, x13, x14, t4, l4, rfl, m7, ht7, hv7, hR7, hW7⟩
  clear m6 hv6 hR6 hW6
  -- the row
  refine q_step (fun σ' H' => ∃ (ra : Addr) (xs : List Nat) (t5 l5 : Int), σ' = [some (.ref a0), some (.ref M), some (.int (i : Nat)), some v, some (.int (e : Nat)), some v5, some v6, some v7, some (.int (j : Nat)), some (.ref ra), x10, x11, x12, x13, x14] ∧ Mill M c cs t5 l5 H' ∧ t5 ≤ t4 + 30 ∧ Dp K H' v (dP2 (n, w')) ∧ (rRules K M R).on v5 H' ∧ (webR K bs w' e J).on v7 H' ∧ H' ra = some (.lst (xs.map fun n => .int (n : Nat))) ∧ (∀ x ∈ xs, x < w') ∧ xs.length ≤ 20) ?_ (fun rest => ?_)
  rotate_left
  · refine s_tA (t_pick (ds := ([8, 12, 3, 0, 20] : List Nat).map fun n => .int (n : Nat)) (Evl.ev_var rfl) (gl_lst (ga_cons (gd_ev Evl.ev_c (.int _)) (ga_cons (gd_ev Evl.ev_c (.int _)) (ga_cons (gd_ev Evl.ev_c (.int _)) (ga_cons (gd_ev Evl.ev_c (.int _)) (ga_cons (gd_ev Evl.ev_c (.int _)) ga_nil))))) (by rw [List.length_map]; decide)) m7 (by omega) (tup_all (fun _ => rfl) _) (by decide) (by decide) (fun k t5 l5 d vl H8 b8 m8 ht8 hk hvl => ?_))
    obtain ⟨many, hmany, rfl⟩ := nat_of hk
    have hmany : many ≤ 20 := by
      simp only [List.mem_cons, List.not_mem_nil, or_false] at hmany
      omega
    obtain rfl := dp_int hvl
    have hv8 := dp_butM m7 b8 (tup_P2 _) hv7
    have hR8 := rRules_but m7.at_ b8 hR7
    have hW8 := but_web _ _ _ _ _ m7.at_ b8 hW7
    refine ⟨((many : Nat) : Int), rfl, by omega, by omega, fun Dl hD => ?_⟩
    have hDM : Dl ≠ M := fun z => by rw [z, m8.at_] at hD; cases hD
    have hDc : Dl ≠ c := fun z => by rw [z, m8.cells] at hD; cases hD
    rw [Int.toNat_natCast]
    refine lc_range (lo := 0) (n := many) (fun q H' => ∃ (xs : List Nat) (t6 l6 : Int), Mill M c cs t6 l6 H' ∧ t6 ≤ t5 + (q : Int) ∧ ExB M H8 H' ∧ H' Dl = some (.lst (xs.map fun n => .int (n : Nat))) ∧ xs.length = q ∧ ∀ x ∈ xs, x < w') ⟨[], t5, l5, m8.mut hDM hDc, by simp, (ExB.refl M H8).mut hD, upd_same, rfl, by simp⟩ ?_ ?_
    · rintro q H9 hq ⟨xs, t6, l6, m9, ht9, b9, hD9, hxl, hxs⟩
      refine ⟨rfl, ?_⟩
      have hv9 := dp_butM m8 b9 (tup_P2 _) hv8
      refine yes_if ?_
      refine t_cog (P := P) (w := w) (K := K) (many := w') (Evl.ev_var rfl) (gd_int (K := K) (gd_ixT (gd_v (i := 3) (r := rD K (dP2 (n, w'))) rfl hv9) Evl.ev_c (by rfl))) m9 hw1 (by omega) (by omega) (fun y t7 l7 H10 b10 m10 ht10 hy => ?_)
      refine ⟨xs.map fun n => .int (n : Nat), b10 _ _ hDM hD9, Evl.sz_lt (by rw [List.length_map]; omega), xs ++ [y], t7, l7, m10.mut hDM hDc, by push_cast; omega, (b9.tr b10).mut hD, ?_, by rw [List.length_append, hxl]; rfl, ?_⟩
      · rw [upd_same, List.map_append]
        rfl
      · intro x hx
        rcases List.mem_append.mp hx with hx | hx
        · exact hxs x hx
        · rw [List.mem_singleton.mp hx]
          exact hy
    · rintro H9 ⟨xs, t6, l6, m9, ht9, b9, hD9, hxl, hxs⟩
      exact rest _ _ ⟨Dl, xs, t6, l6, rfl, m9, by omega, dp_butM m8 b9 (tup_P2 _) hv8, rRules_but m8.at_ b9 hR8, but_web _ _ _ _ _ m8.at_ b9 hW8, hD9, hxs, by omega⟩
  clear hv7 hR7 hW7 m7
  rintro σ' H8 ⟨ra, xs, t5, l5, rfl, m8, ht8, hv8, hR8, hW8, hra, hxs, hxl⟩
  -- what is due
  refine q_parK (cons_Ev (v := .int ((0 : Nat) : Int)) Evl.ev_c (fun B e9 => cons_GL (gl_lst ga_nil (by decide)) (fun dl zs H10 hdl e10 hdl10 hzs => ⟨_, _, rfl, ?_⟩)))
  obtain rfl : zs = [] := by cases zs with | nil => rfl | cons _ _ => exact hzs.elim
  have mB := m8.ex e9
  have hvB := dp_ex e9 _ _ hv8
  have hRB := (rRules K M R).up e9 hR8
  have hWB := (webR K bs w' e J).up e9 hW8
  have hraB := e9 _ _ hra
  clear m8 hv8 hR8 hW8 hra e9
  have hRD : Dp K B v5 (.list (R.map dRowL)) := rRules_D hRB
  obtain ⟨ar, xr, rfl, hr1, hr2⟩ := dp_lst hRD
  refine wq_for (B := B) (ms := xs) (e := fun n => rD K (.int (n : Nat))) (gw_list (f := fun n : Nat => .int (n : Nat)) (Evl.ev_var rfl) (ints_but (K := K) (H' := B) hraB)) e10 (fun q σ' H' => ∃ (s : Nat) (x13 x14 : Option V) (ys : List Nat), σ' = [some (.ref a0), some (.ref M), some (.int (i : Nat)), some v, some (.int (e : Nat)), some (.ref ar), some v6, some v7, some (.int (j : Nat)), some (.ref ra), x10, some (.int (s : Nat)), some (.ref dl), x13, x14] ∧ Ex B H' ∧ s < n ∧ ys ++ dueF R s (xs.drop q) = dueF R 0 xs ∧ ys.length = q ∧ H' dl = some (.lst (ys.map fun n => .int (n : Nat)))) (fun H11 e11 => ⟨0, _, _, [], rfl, Ex.tr e10 e11, hn1, rfl, rfl, e11 _ _ hdl10⟩) (fun q σ' H' z => by obtain ⟨_, _, _, _, _, z, _⟩ := z; exact z) ?_ ?_
  · rintro q x xv σ' H11 hxq ⟨s, x13, x14, ys, rfl, e11, hs, hys, hyl, hd11⟩ hxv
    obtain rfl := dp_int hxv
    obtain ⟨hq, hxe⟩ := List.getElem?_eq_some_iff.mp hxq
    have hxw : x < w' := hxs x (List.mem_of_getElem? hxq)
    have hsR : s < R.length := by rw [okR.len]; exact hs
    obtain ⟨u, hu1, hu2⟩ := dpa_get (i := s) (d := dRowL (rowAt R s)) hr2 (by rw [List.getElem?_map]; simp [rowAt, List.getElem?_eq_getElem hsR])
    have hrl : (rowAt R s).length = w' := okR.rowLen hs
    have hru : ((rowAt R s).map dRule)[x]? = some (dRule (ruleAt R s x)) := by
      have : x < (rowAt R s).length := by rw [hrl]; exact hxw
      have e : ruleAt R s x = (rowAt R s)[x] := by
        show (rowAt R s).getD x (0, 0) = _
        rw [List.getD_eq_getElem?_getD, List.getElem?_eq_getElem this]
        rfl
      rw [List.getElem?_map, List.getElem?_eq_getElem this, e]
      rfl
    have hnx : (ruleAt R s x).2 < n := okR.nxtAt (ruleAt_mem okR hs hxw)
    refine q_ruleK (gd_ixL (ds := (rowAt R s).map dRule) (gd_ev (r := rD K (dRowL (rowAt R s))) (Evl.ev_op (Evl.ev_var rfl) (Evl.ev_var rfl) (Evl.rv_ixL (sql_ex e11 hr1) (atI_nat hu1))) (dp_ex e11 _ _ hu2)) (Evl.ev_var rfl) (atI_nat hru)) (fun H12 e12 => ?_)
    rw [List.drop_eq_getElem_cons hq, hxe, dueF_cons] at hys
    refine Evl.s_app (v := .int ((ruleAt R s x).1 : Nat)) (e12 _ _ hd11) (Evl.ev_var rfl) (Evl.ev_var rfl) (by rw [List.length_map]; omega) (fun H13 e13 => ⟨(ruleAt R s x).2, _, _, ys ++ [(ruleAt R s x).1], rfl, Evl.Ex.mut (Ex.tr e11 (Ex.tr e12 e13)) hdl, hnx, ?_, by rw [List.length_append, hyl]; rfl, ?_⟩)
    · rw [List.append_assoc]
      exact hys
    · rw [upd_same, List.map_append]
      rfl
  · rintro σ' H11 ⟨s, x13, x14, ys, rfl, e11, hs, hys, hyl, hd11⟩
    rw [List.drop_length] at hys
    have hys : ys = dueF R 0 xs := by rw [← hys]; exact (List.append_nil ys).symm
    have hyl : ys.length = xs.length := by rw [hys, dueF_len]
    have okL := leastF_ok okR hn1
    have hlp : 1 ≤ (orderF R).length := orderF_pos okR
    have hln : (orderF R).length ≤ n := orderF_le okR hn1
    have hll : (leastF R).length = (orderF R).length := leastF_len R
    have hlw : (orderF R).length * w' ≤ 15 := Nat.le_trans (Nat.mul_le_mul_right _ hln) hnw
    have hm16 := (few okL (by omega) hw6 hlw).2
    have hA : AnsW w' J 10000 bs xs ys := by
      rw [hys, ← due_zero okR hn1 hxs, hJ, hbs, begs_eq]
      exact ans_zero okL hw1 hlp he14.1 (by omega) hxs
    have hok : WebOk bs w' e J := by
      rw [hbs, hJ]
      exact gd.web
    refine Evl.s_when (b := false) (Evl.et_B (Evl.ev_is (ev_neD (d := lotsD ys) (e := lotsD ys) (gd_call (rel := rel_law_answered K) (ga_cons (gd_v (i := 7) rfl ((webR K bs w' e J).up e11 hWB)) (ga_cons (gd_v (i := 9) (r := rD K (lotsD xs)) rfl ((rD K (lotsD xs)).up e11 (ints_but (K := K) (H' := B) hraB))) (ga_ev Evl.ev_c ga_nil))) (.mk bs w' e J hok xs ys 10000 hxs (by omega) (by decide) hA)) (gd_v (i := 12) (r := rD K (lotsD ys)) rfl (ints_but (K := K) (H' := H11) hd11)) (shaped_ints _) (shaped_ints _)) (by rw [eqv_self _ (lay_ints _)]; rfl))) (fun h => by cases h) (fun _ H12 e12 => ?_)
    have eE := Ex.tr e11 e12
    exact ⟨_, _, _, _, _, _, _, t5, l5, rfl, mB.ex eE, by push_cast; omega, dp_ex eE _ _ hvB, (rRules K M R).up eE hRB, (webR K bs w' e J).up eE hWB⟩
end Mk
namespace Mk
open PySem PySem.Spec PyProof.Rows L2
theorem facts {P : Program} (hP : P.main = theP.main) {w : World} {K : PySem.W.Frag} {h : Heap} {mg : Str → Option Value} {f : Addr} (X : K.In h) (G : h.Ns mainGlobals mg) (hfa : mg ("law" : Str) = some (.ref f)) (c : SaysE K) :
    ∃ fd : FuncData, (∀ (s : Shared) (v : Value), BindsTo s fd ⟨[v], []⟩ [("_law_script", v)]) ∧ ∀ base : Heap, K.In base → base.Ns mainGlobals mg → FnOk P w K mg base CX0 11 f fd ["_law_script"] (SpLaw K) := by
  have T : Txt K mg := { toSaysE := c, KX := ⟨h, X, G⟩ }
  obtain ⟨fd, F⟩ := T.d.def_ 34 (d := d_law) rfl
  have e := hfa.symm.trans T.g_law
  cases e
  have b := FunD.bindsA (ps := ["_law_script"]) F fun _ _ _ _ _ _ us hl => match us, hl with | [_], _ => rfl
  exact ⟨fd, fun s v => b s [v] rfl, fun base _ _ => ok_law T hP F⟩
end Mk
open PySem PySem.W PySem.Calls PyProof.Rows
theorem PySem.Challenge.cw_makesorbars_k46_whole_every_table_by_its_holds : PySem.Challenge.rw_makesorbars_k46_whole_every_table_by_its.Holds := by
  w_on; o_law
  refine HandSHeadRun.head_any (r := OpenLaw.row PySem.Challenge.rw_makesorbars_k46_whole_every_table_by_its) (q := view (OpenLaw.row PySem.Challenge.rw_makesorbars_k46_whole_every_table_by_its).prog [84]) (H := Mk.hookE) (ob := Mk.ob) (M := 9000) (loose := Mk.loose) (d := HandSHeadRun.topDef (OpenLaw.row PySem.Challenge.rw_makesorbars_k46_whole_every_table_by_its).prog 84) (kwd := []) Mk.ob_eq
    (by kernel_rfl) (fun s => by kernel_rfl) Mk.run (by kernel_rfl) (by kernel_rfl) (by kernel_rfl) (by rfl) (by first | assumption | decide +kernel) (by decide +kernel) ⟨rfl, rfl, rfl, rfl, rfl, by decide +kernel⟩ ?hw ?hc
  case hw => w_witness2
  case hc =>
    refine L2.walk_ofE (l := PySem.Challenge.rw_makesorbars_k46_whole_every_table_by_its) (n := 63) (k := 11) (x := "_law_script") (CX := L2.CX0) rfl (by decide) (by kernel_rfl) ⟨rfl, by decide, by decide⟩ ?F (fun _ _ _ _ z => z)
    intro w mg fa h Y G hmg0
    obtain ⟨K, KX, c⟩ := Y
    have hmg : mg ("law" : PySem.Str) = some (.ref fa) := by
      have e : (HandSHeadRun.topDef (OpenLaw.row PySem.Challenge.rw_makesorbars_k46_whole_every_table_by_its).prog 84).name = ("law" : PySem.Str) := by kernel_rfl
      rw [← e]
      exact hmg0
    obtain ⟨fd, hb, hF⟩ := Mk.facts (P := (PySem.Challenge.rw_makesorbars_k46_whole_every_table_by_its).prog) rfl (w := w) KX G hmg c
    exact ⟨K, fd, Mk.SpLaw K, KX, hb, fun H a ns hl _ hS => ⟨a, ns, rfl, hS, by omega, fun _ => rfl⟩, hF⟩
