import PyProof.Rows.All
import Wide.All
import OpenK.AllK
import Wide.FinOn
import HandS.ForMost
import HandS.IsInst
import HandS.Defaults
import HandS.Deep
import HandS.TupMul
import HandS.TupAny
import HandS.Style
import HandS.Zip
import HandS.DictComp
import HandS.More
import KE.KDictZip
import KE.GoesMore
import PyProof.EnumMake
import HandS.Codes
import HandS.Conv
import HandS.Star
import HandS.TryMany
import HandS.SortRule
import KE.DataEq
import HandS.Ends
import HandS.HeadEnd
import KE.KStateDown
import Lean
import HandS.Head0
import HandS.Head1
import HandS.Head2
import HandS.HeadHook1
import HandS.HeadHook2
import HandS.HeadHook3
import HandS.HeadHook4
import PySem.Challenge.RW_roomforall_k71_which_cells_are_taken
set_option Elab.async false
set_option linter.all false
set_option maxRecDepth 100000
set_option maxHeartbeats 0
section
/-! DL0: data-level logic over the hand layer: data in a frozen heap, slots, the relation, judgements. -/
namespace DL
open PySem PySem.Spec PyProof.Rows L2

abbrev D := PyData
def kD : Key → D
  | .inl i => .int i
  | .inr x => .str x
mutual
inductive Dt (K : PySem.W.Frag) (G : Hp) : V → D → Prop
  | non : Dt K G .non .none
  | bl (b : Bool) : Dt K G (.bl b) (.bool b)
  | int (i : Int) : Dt K G (.int i) (.int i)
  | str (x : Str) : Dt K G (.str x) (.str x)
  | lst {a : Addr} {xs : List V} {ds : List D} : SqL K G a xs → DtAll K G xs ds → Dt K G (.ref a) (.list ds)
  | tup {a : Addr} {xs : List V} {ds : List D} : SqT K G a xs → DtAll K G xs ds → Dt K G (.ref a) (.tuple ds)
  | dct {a : Addr} {kvs : List (Key × V)} {ds : List (D × D)} : G a = some (.dK kvs) → DtKV K G kvs ds → Dt K G (.ref a) (.dict ds)
inductive DtAll (K : PySem.W.Frag) (G : Hp) : List V → List D → Prop
  | nil : DtAll K G [] []
  | cons {v : V} {vs : List V} {d : D} {ds : List D} : Dt K G v d → DtAll K G vs ds → DtAll K G (v :: vs) (d :: ds)
inductive DtKV (K : PySem.W.Frag) (G : Hp) : List (Key × V) → List (D × D) → Prop
  | nil : DtKV K G [] []
  | cons {k : Key} {v : V} {kvs : List (Key × V)} {d : D} {ds : List (D × D)} : Dt K G v d → DtKV K G kvs ds → DtKV K G ((k, v) :: kvs) ((kD k, d) :: ds)
end
theorem Same.seqT {K : PySem.W.Frag} {H H' : Hp} {a : Addr} {xs : List V} (e : Same H H') (h : SqT K H a xs) : SqT K H' a xs := by
  rcases h with (h | ⟨o, h⟩) | h
  · exact .inl (.inl (e _ _ h))
  · exact .inl (.inr ⟨o, e _ _ h⟩)
  · exact .inr h
section
variable {K : PySem.W.Frag} {G G' H : Hp}
mutual
theorem Dt.mono (e : Same G G') : ∀ (d : D) (v : V), Dt K G v d → Dt K G' v d
  | .none, _, h => by cases h; exact .non
  | .bool b, _, h => by cases h; exact .bl b
  | .int i, _, h => by cases h; exact .int i
  | .str x, _, h => by cases h; exact .str x
  | .list ds, _, h => by
    cases h with
    | lst h1 h2 => exact .lst (Same.seq e h1) (DtAll.mono e ds _ h2)
  | .tuple ds, _, h => by
    cases h with
    | tup h1 h2 => exact .tup (Same.seqT e h1) (DtAll.mono e ds _ h2)
  | .dict ds, _, h => by
    cases h with
    | dct h1 h2 => exact .dct (e _ _ h1) (DtKV.mono e ds _ h2)
theorem DtAll.mono (e : Same G G') : ∀ (ds : List D) (vs : List V), DtAll K G vs ds → DtAll K G' vs ds
  | [], _, h => by cases h; exact .nil
  | d :: ds, _, h => by
    cases h with
    | cons h1 h2 => exact .cons (Dt.mono e d _ h1) (DtAll.mono e ds _ h2)
theorem DtKV.mono (e : Same G G') : ∀ (ds : List (D × D)) (vs : List (Key × V)), DtKV K G vs ds → DtKV K G' vs ds
  | [], _, h => by cases h; exact .nil
  | (k, d) :: ds, _, h => by
    cases h with
    | cons h1 h2 => exact .cons (Dt.mono e d _ h1) (DtKV.mono e ds _ h2)
end
theorem DtAll.length : ∀ {vs : List V} {ds : List D}, DtAll K G vs ds → vs.length = ds.length
  | [], [], _ => rfl
  | [], _ :: _, h => by cases h
  | _ :: _, [], h => by cases h
  | v :: vs, d :: ds, h => by
    cases h with
    | cons h1 h2 => simp [DtAll.length h2]
theorem DtAll.get : ∀ {vs : List V} {ds : List D} {i : Nat} {d : D}, DtAll K G vs ds → ds[i]? = some d → ∃ v, vs[i]? = some v ∧ Dt K G v d
  | [], [], i, d, _, e => by simp at e
  | [], _ :: _, _, _, h, _ => by cases h
  | _ :: _, [], _, _, h, _ => by cases h
  | v :: vs, d0 :: ds, 0, d, h, e => by
    cases h with
    | cons h1 h2 =>
      simp at e
      subst e
      exact ⟨v, rfl, h1⟩
  | v :: vs, d0 :: ds, i + 1, d, h, e => by
    cases h with
    | cons h1 h2 =>
      obtain ⟨w, e1, e2⟩ := DtAll.get (i := i) h2 (by simpa using e)
      exact ⟨w, by simpa using e1, e2⟩
theorem DtAll.getV : ∀ {vs : List V} {ds : List D} {i : Nat} {v : V}, DtAll K G vs ds → vs[i]? = some v → ∃ d, ds[i]? = some d ∧ Dt K G v d
  | [], [], i, d, _, e => by simp at e
  | [], _ :: _, _, _, h, _ => by cases h
  | _ :: _, [], _, _, h, _ => by cases h
  | v :: vs, d0 :: ds, 0, w, h, e => by
    cases h with
    | cons h1 h2 =>
      simp at e
      subst e
      exact ⟨d0, rfl, h1⟩
  | v :: vs, d0 :: ds, i + 1, w, h, e => by
    cases h with
    | cons h1 h2 =>
      obtain ⟨w, e1, e2⟩ := DtAll.getV (i := i) h2 (by simpa using e)
      exact ⟨w, by simpa using e1, e2⟩
theorem DtAll.append : ∀ {vs us : List V} {ds es : List D}, DtAll K G vs ds → DtAll K G us es → DtAll K G (vs ++ us) (ds ++ es)
  | [], _, [], _, _, h => h
  | [], _, _ :: _, _, h, _ => by cases h
  | _ :: _, _, [], _, h, _ => by cases h
  | v :: vs, us, d :: ds, es, h, k => by
    cases h with
    | cons h1 h2 => exact .cons h1 (DtAll.append h2 k)
theorem DtAll.take : ∀ {vs : List V} {ds : List D} (n : Nat), DtAll K G vs ds → DtAll K G (vs.take n) (ds.take n)
  | _, _, 0, _ => by simp only [List.take_zero]; exact .nil
  | [], [], _ + 1, _ => .nil
  | [], _ :: _, _, h => by cases h
  | _ :: _, [], _, h => by cases h
  | v :: vs, d :: ds, n + 1, h => by
    cases h with
    | cons h1 h2 => exact .cons h1 (DtAll.take n h2)
theorem DtAll.drop : ∀ {vs : List V} {ds : List D} (n : Nat), DtAll K G vs ds → DtAll K G (vs.drop n) (ds.drop n)
  | _, _, 0, h => h
  | [], [], _ + 1, _ => .nil
  | [], _ :: _, _, h => by cases h
  | _ :: _, [], _, h => by cases h
  | v :: vs, d :: ds, n + 1, h => by
    cases h with
    | cons h1 h2 => exact DtAll.drop n h2
theorem DtAll.set : ∀ {vs : List V} {ds : List D} {w : V} {e : D} (n : Nat), DtAll K G vs ds → Dt K G w e → DtAll K G (vs.set n w) (ds.set n e)
  | [], [], _, _, _, _, _ => .nil
  | [], _ :: _, _, _, _, h, _ => by cases h
  | _ :: _, [], _, _, _, h, _ => by cases h
  | v :: vs, d :: ds, w, e, 0, h, k => by
    cases h with
    | cons h1 h2 => exact .cons k h2
  | v :: vs, d :: ds, w, e, n + 1, h, k => by
    cases h with
    | cons h1 h2 => exact .cons h1 (DtAll.set n h2 k)
theorem DtAll.rep {vs : List V} {ds : List D} (h : DtAll K G vs ds) : ∀ n : Nat, DtAll K G (List.replicate n vs).flatten (List.replicate n ds).flatten
  | 0 => .nil
  | n + 1 => by
    rw [List.replicate_succ, List.replicate_succ, List.flatten_cons, List.flatten_cons]
    exact h.append (DtAll.rep h n)
theorem DtAll.bools : ∀ {vs : List V} {bs : List Bool}, DtAll K G vs (bs.map PyData.bool) → vs = bs.map V.bl
  | [], [], _ => rfl
  | [], _ :: _, h => by cases h
  | _ :: _, [], h => by cases h
  | v :: vs, b :: bs, h => by
    cases h with
    | cons h1 h2 =>
      cases h1
      rw [DtAll.bools h2]
      rfl
theorem DtAll.ints : ∀ {vs : List V} {bs : List Int}, DtAll K G vs (bs.map PyData.int) → vs = bs.map V.int
  | [], [], _ => rfl
  | [], _ :: _, h => by cases h
  | _ :: _, [], h => by cases h
  | v :: vs, b :: bs, h => by
    cases h with
    | cons h1 h2 =>
      cases h1
      rw [DtAll.ints h2]
      rfl
/-! the library relation for data without dicts -/
mutual
theorem Dt.dp : ∀ (d : D) (v : V), d.canLay0 = true → Dt K G v d → Dp K G v d
  | .none, _, _, h => by cases h; exact .non
  | .bool b, _, _, h => by cases h; exact .bl b
  | .int i, _, _, h => by cases h; exact .int i
  | .str x, _, _, h => by cases h; exact .str x
  | .list ds, _, c, h => by
    cases h with
    | lst h1 h2 => exact .lst h1 (DtAll.dp ds _ (by simpa [PyData.canLay0] using c) h2)
  | .tuple ds, _, c, h => by
    cases h with
    | tup h1 h2 => exact .tup h1 (DtAll.dp ds _ (by simpa [PyData.canLay0] using c) h2)
  | .dict ds, _, c, h => by simp [PyData.canLay0] at c
theorem DtAll.dp : ∀ (ds : List D) (vs : List V), PyData.canLayAll0 ds = true → DtAll K G vs ds → DpAll K G vs ds
  | [], _, _, h => by cases h; exact .nil
  | d :: ds, _, c, h => by
    have c' : d.canLay0 = true ∧ PyData.canLayAll0 ds = true := by simpa [PyData.canLayAll0] using c
    cases h with
    | cons h1 h2 => exact .cons (Dt.dp d _ c'.1 h1) (DtAll.dp ds _ c'.2 h2)
end
end
end DL
end

section
/-! SH1: a symbolic heap: slots and objects; the relation, judgements. -/
namespace SH
open PySem PySem.Spec PyProof.Rows L2 DL

/-- what a name holds: data that never changes, or an object of the heap -/
inductive Rv where
  | dat (d : D)
  | adr (a : Addr)
inductive MO where
  | lst (rs : List Rv)
  | tup (rs : List Rv)
  | dk (kvs : List (Key × Rv))
  | dt (kvs : List (List Key × Rv))
  | ins (C dx : Addr) (fs : List (Str × Rv))
  | lk (od : Obj) (vs : List (Key × V)) (kvs : List (Key × Rv))
abbrev Obs := List (Addr × MO)
inductive RvOk (K : PySem.W.Frag) (G : Hp) : V → Rv → Prop
  | dat {v : V} {d : D} : Dt K G v d → RvOk K G v (.dat d)
  | adr {a : Addr} : RvOk K G (.ref a) (.adr a)
inductive RvAll (K : PySem.W.Frag) (G : Hp) : List V → List Rv → Prop
  | nil : RvAll K G [] []
  | cons {v : V} {vs : List V} {r : Rv} {rs : List Rv} : RvOk K G v r → RvAll K G vs rs → RvAll K G (v :: vs) (r :: rs)
inductive KvAll {α : Type} (K : PySem.W.Frag) (G : Hp) : List (α × V) → List (α × Rv) → Prop
  | nil : KvAll K G [] []
  | cons {k : α} {v : V} {vs : List (α × V)} {r : Rv} {rs : List (α × Rv)} : RvOk K G v r → KvAll K G vs rs → KvAll K G ((k, v) :: vs) ((k, r) :: rs)
inductive MOk (K : PySem.W.Frag) (G : Hp) : HO → MO → Prop
  | lst {vs rs} : RvAll K G vs rs → MOk K G (.lst vs) (.lst rs)
  | tup {vs rs} : RvAll K G vs rs → MOk K G (.tup vs) (.tup rs)
  | dk {vs rs} : KvAll K G vs rs → MOk K G (.dK vs) (.dk rs)
  | dt {vs rs} : KvAll K G vs rs → MOk K G (.dT vs) (.dt rs)
  | ins {C dx vs rs} : KvAll K G vs rs → MOk K G (.ins C dx vs) (.ins C dx rs)
  | lk {od vs rs} : KvAll K G vs rs → MOk K G (.frz od (.dK vs)) (.lk od vs rs)
section
variable {K : PySem.W.Frag} {G G' : Hp}
theorem RvOk.mono (s : Same G G') {v : V} {r : Rv} (h : RvOk K G v r) : RvOk K G' v r := by
  cases h with
  | dat h => exact .dat (Dt.mono s _ _ h)
  | adr => exact .adr
theorem RvAll.mono (s : Same G G') : ∀ {vs : List V} {rs : List Rv}, RvAll K G vs rs → RvAll K G' vs rs
  | _, _, .nil => .nil
  | _, _, .cons h t => .cons (h.mono s) (RvAll.mono s t)
theorem KvAll.mono {α : Type} (s : Same G G') : ∀ {vs : List (α × V)} {rs : List (α × Rv)}, KvAll K G vs rs → KvAll K G' vs rs
  | _, _, .nil => .nil
  | _, _, .cons h t => .cons (h.mono s) (KvAll.mono s t)
theorem MOk.mono (s : Same G G') {u : HO} {o : MO} (h : MOk K G u o) : MOk K G' u o := by
  cases h with
  | lst h => exact .lst (h.mono s)
  | tup h => exact .tup (h.mono s)
  | dk h => exact .dk (h.mono s)
  | dt h => exact .dt (h.mono s)
  | ins h => exact .ins (h.mono s)
  | lk h => exact .lk (h.mono s)
theorem RvAll.length : ∀ {vs : List V} {rs : List Rv}, RvAll K G vs rs → vs.length = rs.length
  | _, _, .nil => rfl
  | _, _, .cons _ t => by simp [RvAll.length t]
theorem KvAll.length {α : Type} : ∀ {vs : List (α × V)} {rs : List (α × Rv)}, KvAll K G vs rs → vs.length = rs.length
  | _, _, .nil => rfl
  | _, _, .cons _ t => by simp [KvAll.length t]
theorem RvAll.get : ∀ {vs : List V} {rs : List Rv} {i : Nat} {r : Rv}, RvAll K G vs rs → rs[i]? = some r → ∃ v, vs[i]? = some v ∧ RvOk K G v r
  | _, _, _, _, .nil, e => by simp at e
  | _, _, 0, _, .cons h _, e => by simp at e; subst e; exact ⟨_, rfl, h⟩
  | _, _, i + 1, r, .cons _ t, e => by
    obtain ⟨v, e1, e2⟩ := RvAll.get (i := i) t (by simpa using e)
    exact ⟨v, by simpa using e1, e2⟩
theorem RvAll.append : ∀ {vs us : List V} {rs ts : List Rv}, RvAll K G vs rs → RvAll K G us ts → RvAll K G (vs ++ us) (rs ++ ts)
  | _, _, _, _, .nil, k => k
  | _, _, _, _, .cons h t, k => .cons h (RvAll.append t k)
theorem RvAll.take : ∀ {vs : List V} {rs : List Rv} (n : Nat), RvAll K G vs rs → RvAll K G (vs.take n) (rs.take n)
  | _, _, 0, _ => by simp only [List.take_zero]; exact .nil
  | _, _, _ + 1, .nil => .nil
  | _, _, n + 1, .cons h t => .cons h (RvAll.take n t)
theorem RvAll.drop : ∀ {vs : List V} {rs : List Rv} (n : Nat), RvAll K G vs rs → RvAll K G (vs.drop n) (rs.drop n)
  | _, _, 0, h => h
  | _, _, _ + 1, .nil => .nil
  | _, _, n + 1, .cons _ t => RvAll.drop n t
theorem RvAll.set : ∀ {vs : List V} {rs : List Rv} {w : V} {e : Rv} (n : Nat), RvAll K G vs rs → RvOk K G w e → RvAll K G (vs.set n w) (rs.set n e)
  | _, _, _, _, _, .nil, _ => .nil
  | _, _, _, _, 0, .cons _ t, k => .cons k t
  | _, _, _, _, n + 1, .cons h t, k => .cons h (RvAll.set n t k)
theorem RvAll.dropLast {vs : List V} {rs : List Rv} (h : RvAll K G vs rs) : RvAll K G vs.dropLast rs.dropLast := by
  rw [List.dropLast_eq_take, List.dropLast_eq_take, h.length]
  exact h.take _
theorem RvAll.ofDt : ∀ {vs : List V} {ds : List D}, DtAll K G vs ds → RvAll K G vs (ds.map .dat)
  | [], [], _ => .nil
  | [], _ :: _, h => by cases h
  | _ :: _, [], h => by cases h
  | v :: vs, d :: ds, h => by
    cases h with
    | cons h1 h2 => exact .cons (.dat h1) (RvAll.ofDt h2)
theorem RvAll.toDt : ∀ {vs : List V} {ds : List D}, RvAll K G vs (ds.map .dat) → DtAll K G vs ds
  | _, [], h => by cases h; exact .nil
  | _, d :: ds, h => by
    cases h with
    | cons h1 h2 =>
      cases h1 with
      | dat h1 => exact .cons h1 (RvAll.toDt h2)
theorem KvAll.look {α : Type} [BEq α] : ∀ {vs : List (α × V)} {rs : List (α × Rv)} {k : α} {r : Rv}, KvAll K G vs rs → rs.lookup k = some r → ∃ v, vs.lookup k = some v ∧ RvOk K G v r
  | _, _, _, _, .nil, e => by cases e
  | _, _, k, r, .cons (k := k') h t, e => by
    rw [List.lookup_cons] at e
    rw [List.lookup_cons]
    cases q : k == k' with
    | true =>
      rw [q] at e
      cases e
      exact ⟨_, rfl, h⟩
    | false =>
      rw [q] at e
      exact KvAll.look t e
theorem KvAll.look0 {α : Type} [BEq α] : ∀ {vs : List (α × V)} {rs : List (α × Rv)} {k : α}, KvAll K G vs rs → rs.lookup k = none → vs.lookup k = none
  | _, _, _, .nil, _ => rfl
  | _, _, k, .cons (k := k') h t, e => by
    rw [List.lookup_cons] at e
    rw [List.lookup_cons]
    cases q : k == k' with
    | true =>
      rw [q] at e
      cases e
    | false =>
      rw [q] at e
      exact KvAll.look0 t e
end
/-! ### picking objects out of a row by their places, putting them back -/
def pickAt {α : Type} (is : List Nat) (b : List α) : List α := is.filterMap fun i => b[i]?
def putAt {α : Type} : List Nat → List α → List α → List α
  | i :: is, x :: xs, b => putAt is xs (b.set i x)
  | [], xs, b => b ++ xs
  | _ :: _, [], b => b
theorem pickAt_map {α β : Type} (f : α → β) (b : List α) : ∀ is : List Nat, (pickAt is b).map f = pickAt is (b.map f)
  | [] => rfl
  | i :: is => by
    have ih := pickAt_map f b is
    unfold pickAt at ih ⊢
    rw [List.filterMap_cons, List.filterMap_cons, List.getElem?_map]
    cases b[i]? with
    | none => exact ih
    | some x => simp [ih]
theorem pickAt_mem {α : Type} {b : List α} {x : α} : ∀ {is : List Nat}, x ∈ pickAt is b → ∃ i, i ∈ is ∧ b[i]? = some x
  | is, h => by
    unfold pickAt at h
    obtain ⟨i, h1, h2⟩ := List.mem_filterMap.mp h
    exact ⟨i, h1, h2⟩
theorem nodup_get {α : Type} : ∀ {l : List α} {i j : Nat} {x : α}, l.Nodup → l[i]? = some x → l[j]? = some x → i = j
  | [], i, j, x, _, h, _ => by simp at h
  | y :: l, 0, 0, x, _, _, _ => rfl
  | y :: l, 0, j + 1, x, hn, h1, h2 => by
    simp at h1 h2
    subst h1
    exact absurd (List.mem_of_getElem? h2) (List.nodup_cons.mp hn).1
  | y :: l, i + 1, 0, x, hn, h1, h2 => by
    simp at h1 h2
    subst h2
    exact absurd (List.mem_of_getElem? h1) (List.nodup_cons.mp hn).1
  | y :: l, i + 1, j + 1, x, hn, h1, h2 => by
    simp at h1 h2
    rw [nodup_get (List.nodup_cons.mp hn).2 h1 h2]
theorem pickAt_nodup {α : Type} {b : List α} (hb : b.Nodup) : ∀ {is : List Nat}, is.Nodup → (pickAt is b).Nodup
  | [], _ => List.nodup_nil
  | i :: is, h => by
    have h' := List.nodup_cons.mp h
    have ih := pickAt_nodup hb h'.2
    unfold pickAt at ih ⊢
    rw [List.filterMap_cons]
    cases e : b[i]? with
    | none => exact ih
    | some x =>
      refine List.nodup_cons.mpr ⟨fun hm => ?_, ih⟩
      obtain ⟨j, h1, h2⟩ := List.mem_filterMap.mp hm
      have : i = j := nodup_get hb e h2
      exact h'.1 (this ▸ h1)
theorem putAt_mem {α : Type} {z : α} : ∀ {is : List Nat} {xs b : List α}, is.length ≤ xs.length → z ∈ putAt is xs b → z ∈ xs ∨ ∃ j, j ∉ is ∧ b[j]? = some z
  | [], xs, b, _, h => by
    rcases List.mem_append.mp h with h | h
    · obtain ⟨j, hj⟩ := List.getElem?_of_mem h
      exact .inr ⟨j, by simp, hj⟩
    · exact .inl h
  | _ :: _, [], b, hl, h => by simp at hl
  | i :: is, x :: xs, b, hl, h => by
    rcases putAt_mem (is := is) (xs := xs) (b := b.set i x) (by simpa using hl) h with h | ⟨j, h1, h2⟩
    · exact .inl (List.mem_cons_of_mem _ h)
    · by_cases hj : i = j
      · subst hj
        rw [List.getElem?_set] at h2
        split at h2
        · split at h2
          · cases h2
            exact .inl List.mem_cons_self
          · cases h2
        · exact absurd rfl (by assumption)
      · rw [List.getElem?_set_ne hj] at h2
        exact .inr ⟨j, by simp only [List.mem_cons, not_or]; exact ⟨fun e => hj e.symm, h1⟩, h2⟩
theorem set_same {α : Type} : ∀ {l : List α} {i : Nat} {x : α}, l[i]? = some x → l.set i x = l
  | [], _, _, _ => rfl
  | y :: l, 0, x, h => by simp at h; subst h; rfl
  | y :: l, i + 1, x, h => by
    simp at h
    rw [List.set_cons_succ, set_same h]
theorem putAt_map {α β : Type} (f : α → β) : ∀ {is : List Nat} {xs b : List α}, is.length ≤ xs.length → (∀ i ∈ is, i < b.length) → (xs.take is.length).map f = pickAt is (b.map f) → (putAt is xs b).map f = b.map f ++ (xs.drop is.length).map f
  | [], xs, b, _, _, _ => by simp [putAt]
  | _ :: _, [], b, hl, _, _ => by simp at hl
  | i :: is, x :: xs, b, hl, hi, h => by
    have hb : i < b.length := hi i List.mem_cons_self
    have e0 : (b.map f)[i]? = some (f b[i]) := by simp [hb]
    have h' : f x :: (xs.take is.length).map f = f b[i] :: pickAt is (b.map f) := by
      have : pickAt (i :: is) (b.map f) = f b[i] :: pickAt is (b.map f) := by
        unfold pickAt
        rw [List.filterMap_cons, e0]
      rw [← this, ← h]
      rfl
    injection h' with h1 h2
    have eb : (b.set i x).map f = b.map f := by
      rw [List.map_set]
      exact set_same (by rw [e0, h1])
    show (putAt is xs (b.set i x)).map f = _
    rw [putAt_map f (by simpa using hl) (fun j hj => by rw [List.length_set]; exact hi j (List.mem_cons_of_mem _ hj)) (by rw [eb]; exact h2), eb]
    rfl
/-! ### the heap held -/
structure HR (K : PySem.W.Frag) (F G H : Hp) (ob : Obs) : Prop where
  ext : Same G H
  frm : ∀ a o, F a = some o → G a = none ∧ H a = some o
  obs : ∀ a o, (a, o) ∈ ob → G a = none ∧ F a = none ∧ ∃ u, H a = some u ∧ MOk K G u o
  nod : (ob.map (·.1)).Nodup
structure S where
  sl : List (Option Rv)
  ob : Obs
structure Rel (K : PySem.W.Frag) (F : Hp) (σ : L2.St) (G H : Hp) (δ : S) : Prop where
  hr : HR K F G H δ.ob
  len : σ.length = δ.sl.length
  slo : ∀ (i : Nat) (r : Rv), δ.sl[i]? = some (some r) → ∃ v, σ[i]? = some (some v) ∧ RvOk K G v r
theorem same_new {G : Hp} {p : Addr} {u : HO} (hp : G p = none) : Same G (upd G p u) := fun b q r => by rw [upd_ne (ne_of_none r hp)]; exact r
theorem ob_key {ob : Obs} {a : Addr} {o : MO} (h : (a, o) ∈ ob) : a ∈ ob.map (·.1) := List.mem_map.mpr ⟨_, h, rfl⟩
theorem ob_fun : ∀ {ob : Obs} {a : Addr} {o o' : MO}, (ob.map (·.1)).Nodup → (a, o) ∈ ob → (a, o') ∈ ob → o = o' := fun {ob a o o'} hn h1 h2 => by
  obtain ⟨i, e1⟩ := List.getElem?_of_mem h1
  obtain ⟨j, e2⟩ := List.getElem?_of_mem h2
  have : i = j := nodup_get hn (x := a) (by rw [List.getElem?_map, e1]; rfl) (by rw [List.getElem?_map, e2]; rfl)
  subst this
  rw [e1] at e2
  cases e2
  rfl
section
variable {K : PySem.W.Frag} {F G G' H H' : Hp} {ob ob' : Obs} {p a : Addr} {u u' : HO} {o o' : MO}
theorem HR.gnone (r : HR K F G H ob) (hp : H p = none) : G p = none := Same.free r.ext hp
theorem HR.fnone (r : HR K F G H ob) (hp : H p = none) : F p = none := by
  cases z : F p with
  | none => rfl
  | some o =>
    have := (r.frm p o z).2
    rw [hp] at this
    cases this
theorem HR.onone (r : HR K F G H ob) (hp : H p = none) : p ∉ ob.map (·.1) := fun h => by
  obtain ⟨⟨b, o⟩, h1, h2⟩ := List.mem_map.mp h
  obtain ⟨_, _, u, h3, _⟩ := r.obs b o h1
  cases h2
  rw [hp] at h3
  cases h3
/-- a new object of frozen data -/
theorem HR.new (r : HR K F G H ob) (hp : H p = none) : HR K F (upd G p u) (upd H p u) ob where
  ext := fun b o e => by
    by_cases hb : b = p
    · subst hb
      rw [upd_same] at e ⊢
      exact e
    · rw [upd_ne hb] at e ⊢
      exact r.ext b o e
  frm := fun a o e => by
    obtain ⟨h1, h2⟩ := r.frm a o e
    have n : a ≠ p := ne_of_none h2 hp
    rw [upd_ne n, upd_ne n]
    exact ⟨h1, h2⟩
  obs := fun a o e => by
    obtain ⟨h1, h2, w, h3, h4⟩ := r.obs a o e
    have n : a ≠ p := ne_of_none h3 hp
    rw [upd_ne n, upd_ne n]
    exact ⟨h1, h2, w, h3, h4.mono (same_new (r.gnone hp))⟩
  nod := r.nod
/-- a new object that may change -/
theorem HR.newO (r : HR K F G H ob) (hp : H p = none) (h : MOk K G u o) : HR K F G (upd H p u) (ob ++ [(p, o)]) where
  ext := fun b q e => by
    rw [upd_ne (ne_of_none (r.ext b q e) hp)]
    exact r.ext b q e
  frm := fun a q e => by
    obtain ⟨h1, h2⟩ := r.frm a q e
    rw [upd_ne (ne_of_none h2 hp)]
    exact ⟨h1, h2⟩
  obs := fun a q e => by
    rcases List.mem_append.mp e with e | e
    · obtain ⟨h1, h2, w, h3, h4⟩ := r.obs a q e
      rw [upd_ne (ne_of_none h3 hp)]
      exact ⟨h1, h2, w, h3, h4⟩
    · simp only [List.mem_singleton, Prod.mk.injEq] at e
      obtain ⟨e1, e2⟩ := e
      subst e1 e2
      exact ⟨r.gnone hp, r.fnone hp, u, upd_same, h⟩
  nod := by
    rw [List.map_append, List.map_cons, List.map_nil]
    exact List.nodup_append.mpr ⟨r.nod, by simp, fun b hb c hc e => by
      simp only [List.mem_singleton] at hc
      subst hc
      subst e
      exact r.onone hp hb⟩
/-- an object changes -/
theorem HR.mutO (r : HR K F G H ob) {i : Nat} (hi : ob[i]? = some (a, o)) (h : MOk K G u o') : HR K F G (upd H a u) (ob.set i (a, o')) := by
  obtain ⟨g0, f0, w0, h0, _⟩ := r.obs a o (List.mem_of_getElem? hi)
  have ek : (ob.set i (a, o')).map (·.1) = ob.map (·.1) := by
    rw [List.map_set]
    exact set_same (by rw [List.getElem?_map, hi]; rfl)
  refine ⟨fun b q e => ?_, fun b q e => ?_, fun b q e => ?_, by rw [ek]; exact r.nod⟩
  · have n : b ≠ a := fun z => by rw [z, g0] at e; cases e
    rw [upd_ne n]
    exact r.ext b q e
  · have n : b ≠ a := fun z => by rw [z, f0] at e; cases e
    rw [upd_ne n]
    exact r.frm b q e
  · obtain ⟨j, hj⟩ := List.getElem?_of_mem e
    by_cases hij : i = j
    · subst hij
      have hl := (List.getElem?_eq_some_iff.mp hi).1
      rw [List.getElem?_set_self hl] at hj
      cases hj
      exact ⟨g0, f0, u, upd_same, h⟩
    · rw [List.getElem?_set_ne hij] at hj
      obtain ⟨h1, h2, w, h3, h4⟩ := r.obs b q (List.mem_of_getElem? hj)
      have n : b ≠ a := fun z => hij (nodup_get r.nod (x := a) (by rw [List.getElem?_map, hi]; rfl) (by rw [List.getElem?_map, hj, z]; rfl))
      rw [upd_ne n]
      exact ⟨h1, h2, w, h3, h4⟩
/-- some objects, in another order -/
theorem HR.pick (r : HR K F G H ob) {ks : List Nat} (hk : ks.Nodup) : HR K F G H (pickAt ks ob) where
  ext := r.ext
  frm := r.frm
  obs := fun a o e => by
    obtain ⟨i, _, h⟩ := pickAt_mem e
    exact r.obs a o (List.mem_of_getElem? h)
  nod := by
    rw [pickAt_map]
    exact pickAt_nodup r.nod hk
/-- an object becomes frozen data -/
theorem HR.freeze (r : HR K F G H ob) {i : Nat} (hi : ob[i]? = some (a, o)) (hu : H a = some u) : HR K F (upd G a u) H (ob.eraseIdx i) := by
  obtain ⟨g0, f0, w0, h0, _⟩ := r.obs a o (List.mem_of_getElem? hi)
  have hl := (List.getElem?_eq_some_iff.mp hi).1
  have sub : (ob.eraseIdx i).Sublist ob := List.eraseIdx_sublist ob i
  refine ⟨fun b q e => ?_, fun b q e => ?_, fun b q e => ?_, List.Nodup.sublist (sub.map _) r.nod⟩
  · by_cases hb : b = a
    · subst hb
      rw [upd_same] at e
      rw [← e]
      exact hu
    · rw [upd_ne hb] at e
      exact r.ext b q e
  · obtain ⟨k1, k2⟩ := r.frm b q e
    have n : b ≠ a := fun z => by rw [z, f0] at e; cases e
    rw [upd_ne n]
    exact ⟨k1, k2⟩
  · obtain ⟨h1, h2, w, h3, h4⟩ := r.obs b q (sub.subset e)
    have n : b ≠ a := fun z => by
      subst z
      obtain ⟨j, hj⟩ := List.getElem?_of_mem e
      rw [List.getElem?_eraseIdx] at hj
      have far : ∀ m, m ≠ i → ob[m]? ≠ some (b, q) := fun m hm z => hm (nodup_get r.nod (x := b) (by rw [List.getElem?_map, z]; rfl) (by rw [List.getElem?_map, hi]; rfl))
      split at hj
      · exact far j (by omega) hj
      · exact far (j + 1) (by omega) hj
    rw [upd_ne n]
    exact ⟨h1, h2, w, h3, h4.mono (same_new g0)⟩
/-- a thing of the frame: new, changed, frozen, an object -/
theorem HR.newF (r : HR K F G H ob) (hp : H p = none) : HR K (upd F p u) G (upd H p u) ob where
  ext := fun b q e => by
    rw [upd_ne (ne_of_none (r.ext b q e) hp)]
    exact r.ext b q e
  frm := fun a q e => by
    by_cases ha : a = p
    · subst ha
      rw [upd_same] at e ⊢
      exact ⟨r.gnone hp, e⟩
    · rw [upd_ne ha] at e ⊢
      exact r.frm a q e
  obs := fun a q e => by
    obtain ⟨h1, h2, w, h3, h4⟩ := r.obs a q e
    have n := ne_of_none h3 hp
    rw [upd_ne n, upd_ne n]
    exact ⟨h1, h2, w, h3, h4⟩
  nod := r.nod
theorem HR.growF (r : HR K (upd F p u) G H ob) : HR K (upd F p u') G (upd H p u') ob := by
  obtain ⟨g0, h0⟩ := r.frm p u upd_same
  refine ⟨fun b q e => ?_, fun b q e => ?_, fun b q e => ?_, r.nod⟩
  · have n : b ≠ p := fun z => by rw [z, g0] at e; cases e
    rw [upd_ne n]
    exact r.ext b q e
  · by_cases ha : b = p
    · subst ha
      rw [upd_same] at e ⊢
      exact ⟨g0, e⟩
    · rw [upd_ne ha] at e ⊢
      have k := r.frm b q (by rw [upd_ne ha]; exact e)
      exact k
  · obtain ⟨h1, h2, w, h3, h4⟩ := r.obs b q e
    have n : b ≠ p := fun z => by rw [z, upd_same] at h2; cases h2
    rw [upd_ne n] at h2 ⊢
    rw [upd_ne n]
    exact ⟨h1, h2, w, h3, h4⟩
theorem HR.takeF (r : HR K (upd F p u) G H ob) (hf : F p = none) (h : MOk K G u o) : HR K F G H (ob ++ [(p, o)]) := by
  obtain ⟨g0, h0⟩ := r.frm p u upd_same
  refine ⟨r.ext, fun b q e => ?_, fun b q e => ?_, ?_⟩
  · have n : b ≠ p := fun z => by rw [z, hf] at e; cases e
    exact r.frm b q (by rw [upd_ne n]; exact e)
  · rcases List.mem_append.mp e with e | e
    · obtain ⟨h1, h2, w, h3, h4⟩ := r.obs b q e
      have n : b ≠ p := fun z => by rw [z, upd_same] at h2; cases h2
      rw [upd_ne n] at h2
      exact ⟨h1, h2, w, h3, h4⟩
    · simp only [List.mem_singleton, Prod.mk.injEq] at e
      obtain ⟨e1, e2⟩ := e
      subst e1 e2
      exact ⟨g0, hf, u, h0, h⟩
  · rw [List.map_append, List.map_cons, List.map_nil]
    exact List.nodup_append.mpr ⟨r.nod, by simp, fun b hb c hc e => by
      simp only [List.mem_singleton] at hc
      subst hc
      subst e
      obtain ⟨⟨b', q⟩, h1, h2⟩ := List.mem_map.mp hb
      obtain ⟨_, h3, _⟩ := r.obs b' q h1
      cases h2
      rw [upd_same] at h3
      cases h3⟩
theorem HR.freezeF (r : HR K (upd F p u) G H ob) (hf : F p = none) : HR K F (upd G p u) H ob := by
  obtain ⟨g0, h0⟩ := r.frm p u upd_same
  refine ⟨fun b q e => ?_, fun b q e => ?_, fun b q e => ?_, r.nod⟩
  · by_cases hb : b = p
    · subst hb
      rw [upd_same] at e
      rw [← e]
      exact h0
    · rw [upd_ne hb] at e
      exact r.ext b q e
  · have n : b ≠ p := fun z => by rw [z, hf] at e; cases e
    have k := r.frm b q (by rw [upd_ne n]; exact e)
    rw [upd_ne n]
    exact k
  · obtain ⟨h1, h2, w, h3, h4⟩ := r.obs b q e
    have n : b ≠ p := fun z => by rw [z, upd_same] at h2; cases h2
    rw [upd_ne n] at h2 ⊢
    exact ⟨h1, h2, w, h3, h4.mono (same_new g0)⟩
end
section
variable {K : PySem.W.Frag} {F G G' H H' : Hp} {σ : L2.St} {δ : S} {ob : Obs}
/-- the heap goes on, the slots stay -/
theorem Rel.on (r : Rel K F σ G H δ) {F' : Hp} (s : Same G G') (h : HR K F' G' H' ob) : Rel K F' σ G' H' ⟨δ.sl, ob⟩ :=
  ⟨h, r.len, fun i q e => by
    obtain ⟨v, h1, h2⟩ := r.slo i q e
    exact ⟨v, h1, h2.mono s⟩⟩
theorem Rel.new (r : Rel K F σ G H δ) {p : Addr} {u : HO} (hp : H p = none) : Rel K F σ (upd G p u) (upd H p u) δ := r.on (same_new (r.hr.gnone hp)) (r.hr.new hp)
theorem Rel.gnone (r : Rel K F σ G H δ) {p : Addr} (hp : H p = none) : G p = none := r.hr.gnone hp
theorem Rel.newO (r : Rel K F σ G H δ) {p : Addr} {u : HO} {o : MO} (hp : H p = none) (h : MOk K G u o) : Rel K F σ G (upd H p u) ⟨δ.sl, δ.ob ++ [(p, o)]⟩ := r.on (Same.refl G) (r.hr.newO hp h)
theorem Rel.mutO (r : Rel K F σ G H δ) {i : Nat} {a : Addr} {u : HO} {o o' : MO} (hi : δ.ob[i]? = some (a, o)) (h : MOk K G u o') : Rel K F σ G (upd H a u) ⟨δ.sl, δ.ob.set i (a, o')⟩ := r.on (Same.refl G) (r.hr.mutO hi h)
theorem Rel.at (r : Rel K F σ G H δ) {i : Nat} {a : Addr} {o : MO} (hi : δ.ob[i]? = some (a, o)) : G a = none ∧ F a = none ∧ ∃ u, H a = some u ∧ MOk K G u o := r.hr.obs a o (List.mem_of_getElem? hi)
/-- a slot set -/
theorem Rel.set (r : Rel K F σ G H δ) {i : Nat} {v : V} {q : Rv} (h : RvOk K G v q) : Rel K F (σ.set i (some v)) G H ⟨δ.sl.set i (some q), δ.ob⟩ where
  hr := r.hr
  len := by rw [List.length_set, List.length_set]; exact r.len
  slo := fun j s e => by
    by_cases hj : i = j
    · subst hj
      rw [List.getElem?_set] at e
      by_cases hl : i < δ.sl.length
      · simp only [hl, if_true, if_pos rfl] at e
        cases e
        refine ⟨v, ?_, h⟩
        rw [List.getElem?_set]
        have hl2 : i < σ.length := by rw [r.len]; exact hl
        simp only [hl2, if_true, if_pos rfl]
      · simp only [hl, if_false, if_pos rfl] at e
        cases e
    · have e' : (δ.sl.set i (some q))[j]? = some (some s) := e
      rw [List.getElem?_set_ne hj] at e'
      rw [List.getElem?_set_ne hj]
      exact r.slo j s e'
end
end SH
end

section
/-! SH2: judgements; constants, names, and, or, not, if, comparisons. -/
namespace SH
open PySem PySem.Spec PyProof.Rows L2 DL
/-! ### universal readings -/
def U (X : Cx) (e : Expr) : TE := fun σ H Q => ∀ pins s, Inv X pins σ H s → wpAny (model X.prog X.w) X.A (eval e X.env) (EP X pins σ Q) X.xe s
def UA (X : Cx) (es : List Expr) : TA := fun σ H Q => ∀ pos pins s, Inv X pins σ H s → wpAny (model X.prog X.w) X.A (spliced (backTo pos (starEach es X.env))) (AP X pins σ Q) X.xe s
def UT (X : Cx) (e : Expr) : TT := fun σ H Q => ∀ pins s, Inv X pins σ H s → wpAny (model X.prog X.w) X.A (isTrue e X.env (eval e X.env)) (TP X pins σ Q) X.xe s
def UTs (X : Cx) (ifs : List Expr) : TT := fun σ H Q => ∀ pins s, Inv X pins σ H s →
    wpAny (model X.prog X.w) X.A (forIn ifs true fun c r => if r = true then do let ok ← isTrue c X.env (eval c X.env); pure (ForInStep.yield ok) else pure (ForInStep.yield r)) (TP X pins σ Q) X.xe s
def US (X : Cx) (st : Stmt) : TS := fun D σ H => ∀ pins s, Inv X pins σ H s → wpAny (model X.prog X.w) X.A (exec st X.env) (SP X pins D) X.xe s
def USs (X : Cx) (st : List Stmt) : TS := fun D σ H => ∀ pins s, Inv X pins σ H s → wpAny (model X.prog X.w) X.A (execs st X.env) (SP X pins D) X.xe s
section
variable {X : Cx} {e : Expr} {es : List Expr} {st : Stmt} {sts : List Stmt}
theorem pe_U : PE X e (U X e) := ⟨fun pins s σ H Q I h => h pins s I⟩
theorem pa_U : PA X es (UA X es) := ⟨fun pos pins s σ H Q I h => h pos pins s I⟩
theorem pt_U : PT X e (UT X e) := ⟨fun pins s σ H Q I h => h pins s I⟩
theorem pts_U : PTs X es (UTs X es) := ⟨fun pins s σ H Q I h => h pins s I⟩
theorem ps_U : PS X st (US X st) := ⟨fun pins s σ H D I h => h pins s I⟩
theorem pss_U : PSs X sts (USs X sts) := ⟨fun pins s σ H D I h => h pins s I⟩
theorem U_of {t : TE} (h : PE X e t) {σ : L2.St} {H : Hp} {Q : VK} (q : t σ H Q) : U X e σ H Q := fun pins s I => h.run pins s σ H Q I q
theorem UA_of {t : TA} (h : PA X es t) {σ : L2.St} {H : Hp} {Q : List V → Hp → Prop} (q : t σ H Q) : UA X es σ H Q := fun pos pins s I => h.run pos pins s σ H Q I q
theorem UT_of {t : TT} (h : PT X e t) {σ : L2.St} {H : Hp} {Q : Bool → Hp → Prop} (q : t σ H Q) : UT X e σ H Q := fun pins s I => h.run pins s σ H Q I q
theorem UTs_of {t : TT} (h : PTs X es t) {σ : L2.St} {H : Hp} {Q : Bool → Hp → Prop} (q : t σ H Q) : UTs X es σ H Q := fun pins s I => h.run pins s σ H Q I q
theorem US_of {t : TS} (h : PS X st t) {σ : L2.St} {H : Hp} {D : Ends} (q : t D σ H) : US X st D σ H := fun pins s I => h.run pins s σ H D I q
theorem USs_of {t : TS} (h : PSs X sts t) {σ : L2.St} {H : Hp} {D : Ends} (q : t D σ H) : USs X sts D σ H := fun pins s I => h.run pins s σ H D I q
end
/-! ### judgements -/
abbrev Post := Rv → S → Prop
def J (X : Cx) (e : Expr) (δ : S) (Φ : Post) : Prop :=
  ∀ (F : Hp) (σ : L2.St) (G H : Hp) (Q : VK), Rel X.K F σ G H δ →
    (∀ v d δ' G' H', Rel X.K F σ G' H' δ' → Same G G' → RvOk X.K G' v d → Φ d δ' → Q v H') → U X e σ H Q
def JA (X : Cx) (es : List Expr) (δ : S) (Φ : List Rv → S → Prop) : Prop :=
  ∀ (F : Hp) (σ : L2.St) (G H : Hp) (Q : List V → Hp → Prop), Rel X.K F σ G H δ →
    (∀ vs ds δ' G' H', Rel X.K F σ G' H' δ' → Same G G' → RvAll X.K G' vs ds → Φ ds δ' → Q vs H') → UA X es σ H Q
def JT (X : Cx) (e : Expr) (δ : S) (Φ : Bool → S → Prop) : Prop :=
  ∀ (F : Hp) (σ : L2.St) (G H : Hp) (Q : Bool → Hp → Prop), Rel X.K F σ G H δ →
    (∀ b δ' G' H', Rel X.K F σ G' H' δ' → Same G G' → Φ b δ' → Q b H') → UT X e σ H Q
def JTs (X : Cx) (es : List Expr) (δ : S) (Φ : Bool → S → Prop) : Prop :=
  ∀ (F : Hp) (σ : L2.St) (G H : Hp) (Q : Bool → Hp → Prop), Rel X.K F σ G H δ →
    (∀ b δ' G' H', Rel X.K F σ G' H' δ' → Same G G' → Φ b δ' → Q b H') → UTs X es σ H Q
structure DE where
  nx : S → Prop
  rt : Rv → S → Prop
  bk : S → Prop := fun _ => False
  ct : S → Prop := fun _ => False
structure EndsOk (K : PySem.W.Frag) (F G : Hp) (E : DE) (D : Ends) : Prop where
  nx : ∀ σ' δ' G' H', Rel K F σ' G' H' δ' → Same G G' → E.nx δ' → D.nx σ' H'
  rt : ∀ v d σ' δ' G' H', Rel K F σ' G' H' δ' → Same G G' → RvOk K G' v d → E.rt d δ' → D.rt v H'
  bk : ∀ σ' δ' G' H', Rel K F σ' G' H' δ' → Same G G' → E.bk δ' → D.bk σ' H'
  ct : ∀ σ' δ' G' H', Rel K F σ' G' H' δ' → Same G G' → E.ct δ' → D.ct σ' H'
theorem EndsOk.mono {K : PySem.W.Frag} {F G G1 : Hp} {E : DE} {D : Ends} (h : EndsOk K F G E D) (e : Same G G1) : EndsOk K F G1 E D :=
  ⟨fun σ' δ' G' H' r s q => h.nx σ' δ' G' H' r (e.trans s) q, fun v d σ' δ' G' H' r s x q => h.rt v d σ' δ' G' H' r (e.trans s) x q, fun σ' δ' G' H' r s q => h.bk σ' δ' G' H' r (e.trans s) q, fun σ' δ' G' H' r s q => h.ct σ' δ' G' H' r (e.trans s) q⟩
def JS (X : Cx) (st : Stmt) (δ : S) (E : DE) : Prop :=
  ∀ (F : Hp) (σ : L2.St) (G H : Hp) (D : Ends), Rel X.K F σ G H δ → EndsOk X.K F G E D → US X st D σ H
def JSs (X : Cx) (sts : List Stmt) (δ : S) (E : DE) : Prop :=
  ∀ (F : Hp) (σ : L2.St) (G H : Hp) (D : Ends), Rel X.K F σ G H δ → EndsOk X.K F G E D → USs X sts D σ H
theorem J.imp {X : Cx} {e : Expr} {δ : S} {Φ Ψ : Post} (h : J X e δ Φ) (i : ∀ d δ', Φ d δ' → Ψ d δ') : J X e δ Ψ := fun F σ G H Q r k => h F σ G H Q r fun v d δ' G' H' r' s x q => k v d δ' G' H' r' s x (i d δ' q)
theorem JA.imp {X : Cx} {e : List Expr} {δ : S} {Φ Ψ : List Rv → S → Prop} (h : JA X e δ Φ) (i : ∀ d δ', Φ d δ' → Ψ d δ') : JA X e δ Ψ := fun F σ G H Q r k => h F σ G H Q r fun v d δ' G' H' r' s x q => k v d δ' G' H' r' s x (i d δ' q)
theorem JT.imp {X : Cx} {e : Expr} {δ : S} {Φ Ψ : Bool → S → Prop} (h : JT X e δ Φ) (i : ∀ d δ', Φ d δ' → Ψ d δ') : JT X e δ Ψ := fun F σ G H Q r k => h F σ G H Q r fun d δ' G' H' r' s q => k d δ' G' H' r' s (i d δ' q)
theorem JSs.imp {X : Cx} {sts : List Stmt} {δ : S} {E E' : DE} (h : JSs X sts δ E) (i1 : ∀ δ, E.nx δ → E'.nx δ) (i2 : ∀ d δ, E.rt d δ → E'.rt d δ) (i3 : ∀ δ, E.bk δ → E'.bk δ) (i4 : ∀ δ, E.ct δ → E'.ct δ) : JSs X sts δ E' := fun F σ G H D r ok =>
  h F σ G H D r ⟨fun σ' δ' G' H' r s q => ok.nx σ' δ' G' H' r s (i1 _ q), fun v d σ' δ' G' H' r s x q => ok.rt v d σ' δ' G' H' r s x (i2 _ _ q), fun σ' δ' G' H' r s q => ok.bk σ' δ' G' H' r s (i3 _ q), fun σ' δ' G' H' r s q => ok.ct σ' δ' G' H' r s (i4 _ q)⟩
/-! data as values -/
abbrev Rv.int (i : Int) : Rv := .dat (.int i)
abbrev Rv.bool (i : Bool) : Rv := .dat (.bool i)
abbrev Rv.str (i : Str) : Rv := .dat (.str i)
abbrev Rv.none : Rv := .dat .none
abbrev Rv.list (i : List D) : Rv := .dat (.list i)
abbrev Rv.tuple (i : List D) : Rv := .dat (.tuple i)
abbrev Rv.dict (i : List (D × D)) : Rv := .dat (.dict i)
theorem rv_int {K : PySem.W.Frag} {G : Hp} {v : V} {i : Int} (h : RvOk K G v (.int i)) : v = .int i := by
  cases h with
  | dat h => cases h; rfl
theorem rv_bool {K : PySem.W.Frag} {G : Hp} {v : V} {i : Bool} (h : RvOk K G v (.bool i)) : v = .bl i := by
  cases h with
  | dat h => cases h; rfl
theorem rv_str {K : PySem.W.Frag} {G : Hp} {v : V} {i : Str} (h : RvOk K G v (.str i)) : v = .str i := by
  cases h with
  | dat h => cases h; rfl
theorem rv_none {K : PySem.W.Frag} {G : Hp} {v : V} (h : RvOk K G v .none) : v = .non := by
  cases h with
  | dat h => cases h; rfl
theorem rv_dat {K : PySem.W.Frag} {G : Hp} {v : V} {d : D} (h : RvOk K G v (.dat d)) : Dt K G v d := by
  cases h with
  | dat h => exact h
theorem rv_adr {K : PySem.W.Frag} {G : Hp} {v : V} {a : Addr} (h : RvOk K G v (.adr a)) : v = .ref a := by
  cases h
  rfl
section
variable {X : Cx} {δ : S} {Φ : Post} {Ψ : Bool → S → Prop} {pos : Pos} {a b c e : Expr} {es rest : List Expr}
theorem J_const {v : V} {d : D} (h : PE X e (tC v)) (hd : ∀ G, Dt X.K G v d) (q : Φ (.dat d) δ) : J X e δ Φ :=
  fun F σ G H Q r k => U_of h (k v _ δ G H r (Same.refl G) (.dat (hd G)) q)
theorem J_int {i : Int} {j} (q : Φ (.int i) δ) : J X (.Constant (.int i) j pos) δ Φ := J_const pe_int (fun _ => .int i) q
theorem J_bool {i : Bool} {j} (q : Φ (.bool i) δ) : J X (.Constant (.bool i) j pos) δ Φ := J_const pe_bl (fun _ => .bl i) q
theorem J_str {i : Str} {j} (q : Φ (.str i) δ) : J X (.Constant (.str i) j pos) δ Φ := J_const pe_str (fun _ => .str i) q
theorem J_none {j} (q : Φ .none δ) : J X (.Constant .none j pos) δ Φ := J_const pe_non (fun _ => .non) q
theorem J_gint {x : Str} {i : Int} {t : Tok} (hm : X.mg x = some (.int i t)) (q : Φ (.int i) δ) (hg : Gl X x := by rfl) (hd : (x == ("__debug__" : Str)) = false := by decide) : J X (.Name x pos) δ Φ :=
  J_const (pe_glob hg hm (show RelV (.int i) (.int i t) from ⟨t, rfl⟩) hd) (fun _ => .int i) q
theorem J_gstr {x z : Str} {t : Tok} (hm : X.mg x = some (.str z t)) (q : Φ (.str z) δ) (hg : Gl X x := by rfl) (hd : (x == ("__debug__" : Str)) = false := by decide) : J X (.Name x pos) δ Φ :=
  J_const (pe_glob hg hm (show RelV (.str z) (.str z t) from ⟨t, rfl⟩) hd) (fun _ => .str z) q
theorem J_name {x : Str} (i : Nat) {d : Rv} (hs : δ.sl[i]? = some (some d)) (q : Φ d δ) (hN : X.N[i]? = some x := by rfl) (hv : Vis X.env.scope x := by first | exact Or.inl rfl | exact Or.inr (Or.inl rfl) | exact Or.inr (Or.inr rfl))
    (hd : (x == ("__debug__" : Str)) = false := by decide) (hcd : (x == ("__classdict__" : Str)) = false := by decide) : J X (.Name x pos) δ Φ := fun F σ G H Q r k => by
  obtain ⟨v, e, h⟩ := r.slo i _ hs
  exact U_of (pe_var hN hv hd hcd) ⟨v, e, k v d δ G H r (Same.refl G) h q⟩
theorem JA_nil {Φ : List Rv → S → Prop} (q : Φ [] δ) : JA X [] δ Φ := fun F σ G H Q r k => UA_of pa_nil (k [] [] δ G H r (Same.refl G) .nil q)
theorem JA_cons {Φ : List Rv → S → Prop} (h : J X e δ fun d δ1 => JA X es δ1 fun ds δ2 => Φ (d :: ds) δ2) (hs : starEach (e :: es) X.env = (false, eval e X.env) :: starEach es X.env := by rfl) : JA X (e :: es) δ Φ :=
  fun F σ G H Q r k => UA_of (pa_cons pe_U pa_U hs) (h F σ G H _ r fun v d δ1 G1 H1 r1 s1 x1 q1 =>
    q1 F σ G1 H1 _ r1 fun vs ds δ2 G2 H2 r2 s2 x2 q2 => k (v :: vs) (d :: ds) δ2 G2 H2 r2 (s1.trans s2) (.cons (x1.mono s2) x2) q2)
theorem len_ok {vs : List V} {ds : List Rv} {K : PySem.W.Frag} {G : Hp} (h : RvAll K G vs ds) (hl : Nat.ble ds.length 1000 = true) : vs.length ≤ sizeLine := by
  have h1 : ds.length ≤ 1000 := Nat.le_of_ble_eq_true hl
  have h2 := h.length
  exact Nat.le_trans (by omega : vs.length ≤ 1000) (by decide)
/-- a tuple of data -/
theorem J_tup {x1} (ha : JA X es δ fun rs δ' => ∃ ds, rs = ds.map .dat ∧ Nat.ble ds.length 1000 = true ∧ Φ (.tuple ds) δ') : J X (.Tuple es x1 pos) δ Φ := fun F σ G H Q r k =>
  U_of (pe_tup pa_U) (ha F σ G H _ r fun vs rs δ' G' H' r' s x q => by
    obtain ⟨ds, rfl, hl, q⟩ := q
    exact ⟨len_ok x (by rw [List.length_map]; exact hl), fun p hp =>
      k (.ref p) _ δ' _ _ (r'.new hp) (s.trans (same_new (r'.gnone hp))) (.dat (.tup (SqT.of upd_same) (DtAll.mono (same_new (r'.gnone hp)) _ _ x.toDt))) q⟩)
/-- a list of data, that never changes -/
theorem J_lstD (ha : JA X es δ fun rs δ' => ∃ ds, rs = ds.map .dat ∧ Nat.ble ds.length 1000 = true ∧ Φ (.list ds) δ') : J X (.List es pos) δ Φ := fun F σ G H Q r k =>
  U_of (pe_lst pa_U) (ha F σ G H _ r fun vs rs δ' G' H' r' s x q => by
    obtain ⟨ds, rfl, hl, q⟩ := q
    exact ⟨len_ok x (by rw [List.length_map]; exact hl), fun p hp =>
      k (.ref p) _ δ' _ _ (r'.new hp) (s.trans (same_new (r'.gnone hp))) (.dat (.lst (SqL.of upd_same) (DtAll.mono (same_new (r'.gnone hp)) _ _ x.toDt))) q⟩)
/-- a new list -/
theorem J_lst (ha : JA X es δ fun rs δ' => Nat.ble rs.length 1000 = true ∧ ∀ p, Φ (.adr p) ⟨δ'.sl, δ'.ob ++ [(p, .lst rs)]⟩) : J X (.List es pos) δ Φ := fun F σ G H Q r k =>
  U_of (pe_lst pa_U) (ha F σ G H _ r fun vs rs δ' G' H' r' s x q => ⟨len_ok x q.1, fun p hp =>
      k (.ref p) _ _ _ _ (r'.newO hp (.lst x)) s .adr (q.2 p)⟩)
/-- a new tuple of anything -/
theorem J_tupO {x1} (ha : JA X es δ fun rs δ' => Nat.ble rs.length 1000 = true ∧ ∀ p, Φ (.adr p) ⟨δ'.sl, δ'.ob ++ [(p, .tup rs)]⟩) : J X (.Tuple es x1 pos) δ Φ := fun F σ G H Q r k =>
  U_of (pe_tup pa_U) (ha F σ G H _ r fun vs rs δ' G' H' r' s x q => ⟨len_ok x q.1, fun p hp =>
      k (.ref p) _ _ _ _ (r'.newO hp (.tup x)) s .adr (q.2 p)⟩)
/-- a new dict -/
theorem J_dic0 (q : ∀ p, Φ (.adr p) ⟨δ.sl, δ.ob ++ [(p, .dk [])]⟩) : J X (.Dict [] [] pos) δ Φ := fun F σ G H Q r k =>
  U_of pe_dnewK (fun p hp => k (.ref p) _ _ _ _ (r.newO hp (.dk .nil)) (Same.refl G) .adr (q p))
theorem J_dicT0 (q : ∀ p, Φ (.adr p) ⟨δ.sl, δ.ob ++ [(p, .dt [])]⟩) : J X (.Dict [] [] pos) δ Φ := fun F σ G H Q r k =>
  U_of pe_dnewT (fun p hp => k (.ref p) _ _ _ _ (r.newO hp (.dt .nil)) (Same.refl G) .adr (q p))
theorem J_dict0 (q : Φ (.dict []) δ) : J X (.Dict [] [] pos) δ Φ := fun F σ G H Q r k =>
  U_of pe_dnewK (fun p hp => k (.ref p) _ δ _ _ (r.new hp) (same_new (r.gnone hp)) (.dat (.dct upd_same .nil)) q)

/-! ### and, or, not, if -/
theorem J_one {op} (h : J X a δ Φ) : J X (.BoolOp op [a] pos) δ Φ := fun F σ G H Q r k => U_of (pe_one pe_U) (h F σ G H Q r k)
theorem J_and (h : J X a δ fun d δ1 => ∃ k, d = .bool k ∧ (k = true → J X (.BoolOp .And (b :: rest) pos) δ1 Φ) ∧ (k = false → Φ (.bool false) δ1)) : J X (.BoolOp .And (a :: b :: rest) pos) δ Φ := fun F σ G H Q r k =>
  U_of (pe_and pe_U pe_U) (h F σ G H _ r fun v d δ1 G1 H1 r1 s1 x1 ⟨t, e, q1, q2⟩ => by
    subst e
    obtain rfl := rv_bool x1
    refine ⟨t, rfl, ?_⟩
    cases t with
    | true => exact iteT (q1 rfl F σ G1 H1 Q r1 fun v d δ2 G2 H2 r2 s2 x2 q => k v d δ2 G2 H2 r2 (s1.trans s2) x2 q)
    | false => exact iteF (k _ _ δ1 G1 H1 r1 s1 (.dat (.bl false)) (q2 rfl)))
theorem J_or (h : J X a δ fun d δ1 => ∃ k, d = .bool k ∧ (k = true → Φ (.bool true) δ1) ∧ (k = false → J X (.BoolOp .Or (b :: rest) pos) δ1 Φ)) : J X (.BoolOp .Or (a :: b :: rest) pos) δ Φ := fun F σ G H Q r k =>
  U_of (pe_or pe_U pe_U) (h F σ G H _ r fun v d δ1 G1 H1 r1 s1 x1 ⟨t, e, q1, q2⟩ => by
    subst e
    obtain rfl := rv_bool x1
    refine ⟨t, rfl, ?_⟩
    cases t with
    | true => exact iteT (k _ _ δ1 G1 H1 r1 s1 (.dat (.bl true)) (q1 rfl))
    | false => exact iteF (q2 rfl F σ G1 H1 Q r1 fun v d δ2 G2 H2 r2 s2 x2 q => k v d δ2 G2 H2 r2 (s1.trans s2) x2 q))
theorem J_not (h : J X a δ fun d δ1 => ∃ k, d = .bool k ∧ Φ (.bool (!k)) δ1) : J X (.UnaryOp .Not a pos) δ Φ := fun F σ G H Q r k =>
  U_of (pe_not pe_U) (h F σ G H _ r fun v d δ1 G1 H1 r1 s1 x1 ⟨t, e, q1⟩ => by
    subst e
    obtain rfl := rv_bool x1
    exact ⟨t, rfl, k _ _ δ1 G1 H1 r1 s1 (.dat (.bl (!t))) q1⟩)
theorem J_neg (h : J X a δ fun d δ1 => ∃ i, d = .int i ∧ Φ (.int (-i)) δ1) : J X (.UnaryOp .USub a pos) δ Φ := fun F σ G H Q r k =>
  U_of (pe_un un_neg pe_U) (h F σ G H _ r fun v d δ1 G1 H1 r1 s1 x1 ⟨t, e, q1⟩ => by
    subst e
    obtain rfl := rv_int x1
    exact ⟨t, rfl, k _ _ δ1 G1 H1 r1 s1 (.dat (.int (-t))) q1⟩)
theorem J_ifExp (h : JT X c δ fun t δ1 => (t = true → J X a δ1 Φ) ∧ (t = false → J X b δ1 Φ)) : J X (.IfExp c a b pos) δ Φ := fun F σ G H Q r k =>
  U_of (pe_ifExp pt_U pe_U pe_U) (h F σ G H _ r fun t δ1 G1 H1 r1 s1 q1 => by
    cases t with
    | true => exact iteT (q1.1 rfl F σ G1 H1 Q r1 fun v d δ2 G2 H2 r2 s2 x2 q => k v d δ2 G2 H2 r2 (s1.trans s2) x2 q)
    | false => exact iteF (q1.2 rfl F σ G1 H1 Q r1 fun v d δ2 G2 H2 r2 s2 x2 q => k v d δ2 G2 H2 r2 (s1.trans s2) x2 q))
/-! ### tests -/
/-- a name, a call, a subscript, a field, if it gives a truth -/
theorem JT_val (h : J X e δ fun d δ1 => ∃ k, d = .bool k ∧ Ψ k δ1) (he : ∀ whole, isTrue e X.env whole = (do let v ← whole; standAt e.pos; holding [v] (truthy v)) := by intro _; rfl) : JT X e δ Ψ := fun F σ G H Q r k =>
  UT_of (pt_val pe_U he) (h F σ G H _ r fun v d δ1 G1 H1 r1 s1 x1 ⟨t, e, q1⟩ => by
    subst e
    obtain rfl := rv_bool x1
    exact ⟨t, rfl, k t δ1 G1 H1 r1 s1 q1⟩)
theorem JT_not (h : JT X a δ fun k δ1 => Ψ (!k) δ1) : JT X (.UnaryOp .Not a pos) δ Ψ := fun F σ G H Q r k =>
  UT_of (pt_not pt_U) (h F σ G H _ r fun t δ1 G1 H1 r1 s1 q1 => k (!t) δ1 G1 H1 r1 s1 q1)
/-- a chain of and, or as a test, whatever its whole is -/
def JW (X : Cx) (e : Expr) (δ : S) (Φ : Bool → S → Prop) : Prop :=
  ∀ (F : Hp) (σ : L2.St) (G H : Hp) (Q : Bool → Hp → Prop), Rel X.K F σ G H δ →
    (∀ b δ' G' H', Rel X.K F σ G' H' δ' → Same G G' → Φ b δ' → Q b H') → ∀ whole pins s, Inv X pins σ H s → wpAny (model X.prog X.w) X.A (isTrue e X.env whole) (TP X pins σ Q) X.xe s
def UW (X : Cx) (e : Expr) : TT := fun σ H Q => ∀ whole pins s, Inv X pins σ H s → wpAny (model X.prog X.w) X.A (isTrue e X.env whole) (TP X pins σ Q) X.xe s
theorem pw_U : PW X e (UW X e) := ⟨fun whole pins s σ H Q I h => h whole pins s I⟩
theorem UW_of {t : TT} (h : PW X e t) {σ : L2.St} {H : Hp} {Q : Bool → Hp → Prop} (q : t σ H Q) : UW X e σ H Q := fun whole pins s I => h.run whole pins s σ H Q I q
theorem JW_and1 (h : JT X a δ Ψ) : JW X (.BoolOp .And [a] pos) δ Ψ := fun F σ G H Q r k => UW_of (pw_and1 pt_U) (h F σ G H Q r k)
theorem JW_or1 (h : JT X a δ Ψ) : JW X (.BoolOp .Or [a] pos) δ Ψ := fun F σ G H Q r k => UW_of (pw_or1 pt_U) (h F σ G H Q r k)
theorem JW_and (h : JT X a δ fun t δ1 => (t = true → JW X (.BoolOp .And (b :: rest) pos) δ1 Ψ) ∧ (t = false → Ψ false δ1)) : JW X (.BoolOp .And (a :: b :: rest) pos) δ Ψ := fun F σ G H Q r k =>
  UW_of (pw_and pt_U pw_U) (h F σ G H _ r fun t δ1 G1 H1 r1 s1 q1 => by
    cases t with
    | true => exact iteT (q1.1 rfl F σ G1 H1 Q r1 fun d δ2 G2 H2 r2 s2 q => k d δ2 G2 H2 r2 (s1.trans s2) q)
    | false => exact iteF (k false δ1 G1 H1 r1 s1 (q1.2 rfl)))
theorem JW_or (h : JT X a δ fun t δ1 => (t = true → Ψ true δ1) ∧ (t = false → JW X (.BoolOp .Or (b :: rest) pos) δ1 Ψ)) : JW X (.BoolOp .Or (a :: b :: rest) pos) δ Ψ := fun F σ G H Q r k =>
  UW_of (pw_or pt_U pw_U) (h F σ G H _ r fun t δ1 G1 H1 r1 s1 q1 => by
    cases t with
    | true => exact iteT (k true δ1 G1 H1 r1 s1 (q1.1 rfl))
    | false => exact iteF (q1.2 rfl F σ G1 H1 Q r1 fun d δ2 G2 H2 r2 s2 q => k d δ2 G2 H2 r2 (s1.trans s2) q))
theorem JT_w (h : JW X e δ Ψ) : JT X e δ Ψ := fun F σ G H Q r k => UT_of pw_U.pt (h F σ G H Q r k)

/-! ### operators: by what their rules ask -/
def RJ (X : Cx) (r : R2) (x y : Rv) (δ : S) (Φ : Post) : Prop :=
  ∀ (F : Hp) (σ : L2.St) (G H : Hp) (Q : VK) (v u : V), Rel X.K F σ G H δ → RvOk X.K G v x → RvOk X.K G u y →
    (∀ w d δ' G' H', Rel X.K F σ G' H' δ' → Same G G' → RvOk X.K G' w d → Φ d δ' → Q w H') → r v u H Q
theorem J_bin {op : Operator} {r : R2} (ho : OpR X (binaryOp op) r) (h : J X a δ fun x δ1 => J X b δ1 fun y δ2 => RJ X r x y δ2 Φ) : J X (.BinOp a op b pos) δ Φ := fun F σ G H Q rl k =>
  U_of (pe_op ho pe_U pe_U) (h F σ G H _ rl fun v x δ1 G1 H1 r1 s1 x1 q1 => q1 F σ G1 H1 _ r1 fun u y δ2 G2 H2 r2 s2 x2 q2 =>
    q2 F σ G2 H2 Q v u r2 (x1.mono s2) x2 fun w d δ3 G3 H3 r3 s3 x3 q3 => k w d δ3 G3 H3 r3 ((s1.trans s2).trans s3) x3 q3)
theorem J_cmp {op : CmpOp} {r : R2} (ho : OpR X (compareOp op) r) (hm : behindInMarks op b = false) (h : J X a δ fun x δ1 => J X b δ1 fun y δ2 => RJ X r x y δ2 Φ) : J X (.Compare a [op] [b] pos) δ Φ := fun F σ G H Q rl k =>
  U_of (pe_cmpR ho pe_U pe_U hm) (h F σ G H _ rl fun v x δ1 G1 H1 r1 s1 x1 q1 => q1 F σ G1 H1 _ r1 fun u y δ2 G2 H2 r2 s2 x2 q2 =>
    q2 F σ G2 H2 Q v u r2 (x1.mono s2) x2 fun w d δ3 G3 H3 r3 s3 x3 q3 => k w d δ3 G3 H3 r3 ((s1.trans s2).trans s3) x3 q3)
theorem JT_cmp {op : CmpOp} {r : R2} (ho : OpR X (compareOp op) r) (hm : behindInMarks op b = false) (h : J X a δ fun x δ1 => J X b δ1 fun y δ2 => RJ X r x y δ2 fun d δ3 => ∃ k, d = .bool k ∧ Ψ k δ3) : JT X (.Compare a [op] [b] pos) δ Ψ := fun F σ G H Q rl k =>
  UT_of (pt_cmpR ho pe_U pe_U hm) (h F σ G H _ rl fun v x δ1 G1 H1 r1 s1 x1 q1 => q1 F σ G1 H1 _ r1 fun u y δ2 G2 H2 r2 s2 x2 q2 =>
    q2 F σ G2 H2 _ v u r2 (x1.mono s2) x2 fun w d δ3 G3 H3 r3 s3 x3 ⟨t, e, q3⟩ => by
      subst e
      obtain rfl := rv_bool x3
      exact ⟨t, rfl, k t δ3 G3 H3 r3 ((s1.trans s2).trans s3) q3⟩)
theorem J_chain {op op' : CmpOp} {r r' : R2} (ho : OpR X (compareOp op) r) (ho' : OpR X (compareOp op') r')
    (h : J X a δ fun x δ1 => J X b δ1 fun y δ2 => RJ X r x y δ2 fun d δ3 => ∃ k, d = .bool k ∧ (k = true → J X c δ3 fun z δ4 => RJ X r' y z δ4 Φ) ∧ (k = false → Φ (.bool false) δ3))
    (hm : lastMarks [op, op'] [b, c] = false := by with_unfolding_all rfl) : J X (.Compare a [op, op'] [b, c] pos) δ Φ := fun F σ G H Q rl k =>
  U_of (pe_chain ho ho' pe_U pe_U pe_U hm) (h F σ G H _ rl fun v x δ1 G1 H1 r1 s1 x1 q1 => q1 F σ G1 H1 _ r1 fun u y δ2 G2 H2 r2 s2 x2 q2 =>
    q2 F σ G2 H2 _ v u r2 (x1.mono s2) x2 fun w d δ3 G3 H3 r3 s3 x3 ⟨t, e, q3, q4⟩ => by
      subst e
      obtain rfl := rv_bool x3
      refine ⟨t, rfl, ?_⟩
      cases t with
      | true => exact iteT (q3 rfl F σ G3 H3 _ r3 fun z' z δ4 G4 H4 r4 s4 x4 q5 => q5 F σ G4 H4 Q u z' r4 (x2.mono (s3.trans s4)) x4 fun w' d' δ5 G5 H5 r5 s5 x5 q6 =>
          k w' d' δ5 G5 H5 r5 ((((s1.trans s2).trans s3).trans s4).trans s5) x5 q6)
      | false => exact iteF (k _ _ δ3 G3 H3 r3 ((s1.trans s2).trans s3) (.dat (.bl false)) (q4 rfl)))
/-- ints -/
theorem RJ_I0 {g : Int → Int → V} {i j : Int} {d : D} (hd : ∀ G, Dt X.K G (g i j) d) (q : Φ (.dat d) δ) : RJ X (rI0 g) (.int i) (.int j) δ Φ := fun F σ G H Q v u r x y k => by
  obtain rfl := rv_int x
  obtain rfl := rv_int y
  exact ⟨i, j, rfl, rfl, k _ _ δ G H r (Same.refl G) (.dat (hd G)) q⟩
theorem RJ_I {C : Int → Int → Prop} {g : Int → Int → V} {i j : Int} {d : D} (hc : C i j) (hd : ∀ G, Dt X.K G (g i j) d) (q : Φ (.dat d) δ) : RJ X (rI C g) (.int i) (.int j) δ Φ := fun F σ G H Q v u r x y k => by
  obtain rfl := rv_int x
  obtain rfl := rv_int y
  exact ⟨i, j, rfl, rfl, hc, k _ _ δ G H r (Same.refl G) (.dat (hd G)) q⟩
theorem RJ_lt {i j : Int} (q : Φ (.bool (decide (i < j))) δ) : RJ X (rI0 fun i j => .bl (decide (i < j))) (.int i) (.int j) δ Φ := RJ_I0 (fun _ => .bl _) q
theorem RJ_le {i j : Int} (q : Φ (.bool (decide (i ≤ j))) δ) : RJ X (rI0 fun i j => .bl (decide (i ≤ j))) (.int i) (.int j) δ Φ := RJ_I0 (fun _ => .bl _) q
theorem RJ_gt {i j : Int} (q : Φ (.bool (decide (j < i))) δ) : RJ X (rI0 fun i j => .bl (decide (j < i))) (.int i) (.int j) δ Φ := RJ_I0 (fun _ => .bl _) q
theorem RJ_ge {i j : Int} (q : Φ (.bool (decide (j ≤ i))) δ) : RJ X (rI0 fun i j => .bl (decide (j ≤ i))) (.int i) (.int j) δ Φ := RJ_I0 (fun _ => .bl _) q
theorem RJ_add {i j : Int} (q : Φ (.int (i + j)) δ) : RJ X (rI0 fun i j => .int (i + j)) (.int i) (.int j) δ Φ := RJ_I0 (fun _ => .int _) q
theorem RJ_sub {i j : Int} (q : Φ (.int (i - j)) δ) : RJ X (rI0 fun i j => .int (i - j)) (.int i) (.int j) δ Φ := RJ_I0 (fun _ => .int _) q
/-- == and != of data -/
theorem RJ_eqD {x y : D} (hx : SeqAt.shaped x = true) (hy : SeqAt.shaped y = true) (q : Φ (.bool (PyData.eqv x y)) δ) : RJ X (rEqD X.K) (.dat x) (.dat y) δ Φ := fun F σ G H Q v u r x1 y1 k =>
  ⟨x, y, Dt.dp x v (SeqAt.canLay_of_shaped hx) (Dt.mono r.hr.ext _ _ (rv_dat x1)), Dt.dp y u (SeqAt.canLay_of_shaped hy) (Dt.mono r.hr.ext _ _ (rv_dat y1)), hx, hy, k _ _ δ G H r (Same.refl G) (.dat (.bl _)) q⟩
theorem RJ_neD {x y : D} (hx : SeqAt.shaped x = true) (hy : SeqAt.shaped y = true) (q : Φ (.bool (!PyData.eqv x y)) δ) : RJ X (rNeD X.K) (.dat x) (.dat y) δ Φ := fun F σ G H Q v u r x1 y1 k =>
  ⟨x, y, Dt.dp x v (SeqAt.canLay_of_shaped hx) (Dt.mono r.hr.ext _ _ (rv_dat x1)), Dt.dp y u (SeqAt.canLay_of_shaped hy) (Dt.mono r.hr.ext _ _ (rv_dat y1)), hx, hy, k _ _ δ G H r (Same.refl G) (.dat (.bl _)) q⟩
end
end SH
end

section
/-! SH3: built-in calls, rows, slices, what is walked. -/
namespace SH
open PySem PySem.Spec PyProof.Rows L2 DL
/-! ### rows: lists and tuples -/
def seqOf : D → Option (List D)
  | .list xs => some xs
  | .tuple xs => some xs
  | _ => none
theorem seq_of {K : PySem.W.Frag} {G : Hp} {v : V} {d : D} {ds : List D} (h : Dt K G v d) (e : seqOf d = some ds) : ∃ a vs, v = .ref a ∧ (SqL K G a vs ∨ SqT K G a vs) ∧ DtAll K G vs ds := by
  cases h with
  | lst h1 h2 =>
    cases e
    exact ⟨_, _, rfl, .inl h1, h2⟩
  | tup h1 h2 =>
    cases e
    exact ⟨_, _, rfl, .inr h1, h2⟩
  | _ => cases e
/-- a list (true) or a tuple (false), by what it holds -/
inductive SV (δ : S) : Rv → Bool → List Rv → Prop
  | dl {ds} : SV δ (.list ds) true (ds.map .dat)
  | dt {ds} : SV δ (.tuple ds) false (ds.map .dat)
  | ol {a rs} (i : Nat) : δ.ob[i]? = some (a, .lst rs) → SV δ (.adr a) true rs
  | ot {a rs} (i : Nat) : δ.ob[i]? = some (a, .tup rs) → SV δ (.adr a) false rs
theorem SV.d {δ : S} {d : D} {ds : List D} (h : seqOf d = some ds) : ∃ b, SV δ (.dat d) b (ds.map .dat) := by
  cases d with
  | list xs => cases h; exact ⟨_, .dl⟩
  | tuple xs => cases h; exact ⟨_, .dt⟩
  | _ => cases h
section
variable {K : PySem.W.Frag} {F G H : Hp} {σ : L2.St} {δ : S}
theorem SV.get (r : Rel K F σ G H δ) {v : V} {q : Rv} {b : Bool} {rs : List Rv} (h : SV δ q b rs) (hv : RvOk K G v q) : ∃ a vs, v = .ref a ∧ RvAll K G vs rs ∧ ((b = true ∧ SqL K H a vs) ∨ (b = false ∧ SqT K H a vs)) := by
  cases h with
  | dl =>
    cases rv_dat hv with
    | lst h1 h2 => exact ⟨_, _, rfl, .ofDt h2, .inl ⟨rfl, r.hr.ext.seq h1⟩⟩
  | dt =>
    cases rv_dat hv with
    | tup h1 h2 => exact ⟨_, _, rfl, .ofDt h2, .inr ⟨rfl, Same.seqT r.hr.ext h1⟩⟩
  | ol i hi =>
    obtain ⟨_, _, u, h3, h4⟩ := r.at hi
    cases h4 with
    | lst h4 => exact ⟨_, _, rv_adr hv, h4, .inl ⟨rfl, SqL.of h3⟩⟩
  | ot i hi =>
    obtain ⟨_, _, u, h3, h4⟩ := r.at hi
    cases h4 with
    | tup h4 => exact ⟨_, _, rv_adr hv, h4, .inr ⟨rfl, SqT.of h3⟩⟩
end
section
variable {X : Cx} {δ : S} {Φ : Post} {Ψ : Bool → S → Prop} {Θ : (S → Prop) → List Rv → S → Prop} {pos p2 p : Pos} {a b c e : Expr} {es rest : List Expr} {x : Str}
/-! ### a call of a built-in thing -/
def RC (X : Cx) (r : List V → Hp → VK → Prop) (ds : List Rv) (δ : S) (Φ : Post) : Prop :=
  ∀ (F : Hp) (σ : L2.St) (G H : Hp) (Q : VK) (vs : List V), Rel X.K F σ G H δ → RvAll X.K G vs ds →
    (∀ w d δ' G' H', Rel X.K F σ G' H' δ' → Same G G' → RvOk X.K G' w d → Φ d δ' → Q w H') → r vs H Q
theorem J_callB {id : String} {r : List V → Hp → VK → Prop} (hc : CallR X (.builtin id) r) (hm : X.mg x = none) (h : JA X (e :: es) δ fun ds δ1 => RC X r ds δ1 Φ) (hg : Gl X x := by rfl) (hv : bootBuiltins x = some (.builtin id) := by decide +kernel)
    (hn : x ≠ "__name__" := by decide) (hdb : (x == ("__debug__" : Str)) = false := by decide) (he : starEach (e :: es) X.env = (false, eval e X.env) :: starEach es X.env := by rfl) (hpl : (backTo pos (starEach es X.env)).any (·.1) = false := by rfl) :
    J X (.Call (.Name x p) (e :: es) [] pos) δ Φ := fun F σ G H Q rl k =>
  U_of (pe_callB hc hg hm hv pa_U hn hdb he hpl) (h F σ G H _ rl fun vs ds δ1 G1 H1 r1 s1 x1 q1 => q1 F σ G1 H1 Q vs r1 x1 fun w d δ2 G2 H2 r2 s2 x2 q2 => k w d δ2 G2 H2 r2 (s1.trans s2) x2 q2)
theorem J_callTy {T : String} {r : List V → Hp → VK → Prop} (hc : CallR X (.type T) r) (hm : X.mg x = none) (h : JA X (e :: es) δ fun ds δ1 => RC X r ds δ1 Φ) (hg : Gl X x := by rfl) (hv : bootBuiltins x = some (.type T) := by decide +kernel)
    (hn : x ≠ "__name__" := by decide) (hdb : (x == ("__debug__" : Str)) = false := by decide) (he : starEach (e :: es) X.env = (false, eval e X.env) :: starEach es X.env := by rfl) (hpl : (backTo pos (starEach es X.env)).any (·.1) = false := by rfl) :
    J X (.Call (.Name x p) (e :: es) [] pos) δ Φ := fun F σ G H Q rl k =>
  U_of (pe_callTy hc hg hm hv pa_U hn hdb he hpl) (h F σ G H _ rl fun vs ds δ1 G1 H1 r1 s1 x1 q1 => q1 F σ G1 H1 Q vs r1 x1 fun w d δ2 G2 H2 r2 s2 x2 q2 => k w d δ2 G2 H2 r2 (s1.trans s2) x2 q2)
theorem ra1 {K : PySem.W.Frag} {G : Hp} {vs : List V} {d : Rv} (h : RvAll K G vs [d]) : ∃ v, vs = [v] ∧ RvOk K G v d := by
  cases h with
  | cons h1 h2 =>
    cases h2
    exact ⟨_, rfl, h1⟩
theorem ra2 {K : PySem.W.Frag} {G : Hp} {vs : List V} {d e : Rv} (h : RvAll K G vs [d, e]) : ∃ v w, vs = [v, w] ∧ RvOk K G v d ∧ RvOk K G w e := by
  cases h with
  | cons h1 h2 =>
    obtain ⟨w, rfl, h3⟩ := ra1 h2
    exact ⟨_, _, rfl, h1, h3⟩
/-- len -/
theorem RC_len {d : Rv} {bb : Bool} {xs : List Rv} (hx : SV δ d bb xs) (q : Φ (.int (xs.length : Nat)) δ) : RC X (fun zs H Q => ∃ y n, zs = [y] ∧ LenV X.K y H n ∧ Q (.int n) H) [d] δ Φ := fun F σ G H Q vs r hv k => by
  obtain ⟨v, rfl, h⟩ := ra1 hv
  obtain ⟨a, us, rfl, hd, hs⟩ := hx.get r h
  refine ⟨.ref a, xs.length, rfl, ?_, k _ _ δ G H r (Same.refl G) (.dat (.int _)) q⟩
  rcases hs with ⟨_, hs⟩ | ⟨_, hs⟩
  · exact .inl ⟨us, hs, hd.length.symm⟩
  · exact .inr ⟨us, hs, hd.length.symm⟩
theorem RC_lenS {s : Str} (hx : s.length ≤ sizeLine) (q : Φ (.int (s.length : Nat)) δ) : RC X (fun zs H Q => ∃ y n, zs = [y] ∧ LenV X.K y H n ∧ Q (.int n) H) [.str s] δ Φ := fun F σ G H Q vs r hv k => by
  obtain ⟨v, rfl, h⟩ := ra1 hv
  obtain rfl := rv_str h
  exact ⟨.str s, s.length, rfl, ⟨hx, rfl⟩, k _ _ δ G H r (Same.refl G) (.dat (.int _)) q⟩
theorem bools_of {K : PySem.W.Frag} {G : Hp} : ∀ {vs : List V} {bs : List Bool}, RvAll K G vs (bs.map Rv.bool) → vs = bs.map V.bl
  | _, [], h => by cases h; rfl
  | _, b :: bs, h => by
    cases h with
    | cons h1 h2 =>
      obtain rfl := rv_bool h1
      rw [bools_of h2]
      rfl
theorem ints_of {K : PySem.W.Frag} {G : Hp} : ∀ {vs : List V} {bs : List Int}, RvAll K G vs (bs.map Rv.int) → vs = bs.map V.int
  | _, [], h => by cases h; rfl
  | _, b :: bs, h => by
    cases h with
    | cons h1 h2 =>
      obtain rfl := rv_int h1
      rw [ints_of h2]
      rfl
theorem ints_rv {K : PySem.W.Frag} {G : Hp} : ∀ (ns : List Int), RvAll K G (ns.map V.int) (ns.map Rv.int)
  | [] => .nil
  | n :: ns => .cons (.dat (.int n)) (ints_rv ns)
/-- all, any, sum -/
theorem RC_all {d : Rv} {bs : List Bool} (hx : SV δ d true (bs.map Rv.bool)) (q : Φ (.bool (bs.all id)) δ) : RC X (rAll X.K) [d] δ Φ := fun F σ G H Q vs r hv k => by
  obtain ⟨v, rfl, h⟩ := ra1 hv
  obtain ⟨a, us, rfl, hd, hs⟩ := hx.get r h
  obtain rfl := bools_of hd
  rcases hs with ⟨_, hs⟩ | ⟨z, _⟩
  · exact ⟨_, bs, rfl, hs, k _ _ δ G H r (Same.refl G) (.dat (.bl _)) q⟩
  · cases z
theorem RC_int {i : Int} (q : Φ (.int i) δ) : RC X (fun xs H Q => (∃ i, xs = [.int i] ∧ Q (.int i) H) ∨ ∃ k, xs = [.bl k] ∧ Q (.int (if k then 1 else 0)) H) [.int i] δ Φ := fun F σ G H Q vs r hv k => by
  obtain ⟨v, rfl, h⟩ := ra1 hv
  obtain rfl := rv_int h
  exact .inl ⟨i, rfl, k _ _ δ G H r (Same.refl G) (.dat (.int _)) q⟩
theorem RC_intB {k : Bool} (q : Φ (.int (if k then 1 else 0)) δ) : RC X (fun xs H Q => (∃ i, xs = [.int i] ∧ Q (.int i) H) ∨ ∃ k, xs = [.bl k] ∧ Q (.int (if k then 1 else 0)) H) [.bool k] δ Φ := fun F σ G H Q vs r hv kk => by
  obtain ⟨v, rfl, h⟩ := ra1 hv
  obtain rfl := rv_bool h
  exact .inr ⟨k, rfl, kk _ _ δ G H r (Same.refl G) (.dat (.int _)) q⟩
theorem RC_abs {i : Int} (q : Φ (.int (if i < 0 then -i else i)) δ) : RC X (fun xs H Q => ∃ i, xs = [.int i] ∧ Q (.int (if i < 0 then -i else i)) H) [.int i] δ Φ := fun F σ G H Q vs r hv k => by
  obtain ⟨v, rfl, h⟩ := ra1 hv
  obtain rfl := rv_int h
  exact ⟨i, rfl, k _ _ δ G H r (Same.refl G) (.dat (.int _)) q⟩
/-- list(xs): a new list -/
theorem RC_list {d : Rv} {bb : Bool} {xs : List Rv} (hx : SV δ d bb xs) (q : ∀ p, Φ (.adr p) ⟨δ.sl, δ.ob ++ [(p, .lst xs)]⟩) : RC X (fun xs H Q => ∃ p ys, xs = [.ref p] ∧ (SqL X.K H p ys ∨ SqT X.K H p ys) ∧ ∀ l, H l = none → Q (.ref l) (upd H l (.lst ys))) [d] δ Φ := fun F σ G H Q vs r hv k => by
  obtain ⟨v, rfl, h⟩ := ra1 hv
  obtain ⟨a, us, rfl, hd, hs⟩ := hx.get r h
  refine ⟨a, us, rfl, ?_, fun l hl => k (.ref l) _ _ _ _ (r.newO hl (.lst hd)) (Same.refl G) .adr (q l)⟩
  rcases hs with ⟨_, hs⟩ | ⟨_, hs⟩
  · exact .inl hs
  · exact .inr hs
/-- tuple(xs) of data -/
theorem RC_tupleL {d : Rv} {ds : List D} (hx : SV δ d true (ds.map .dat)) (q : Φ (.tuple ds) δ) : RC X (fun xs H Q => ∃ p ys, xs = [.ref p] ∧ ((SqL X.K H p ys ∧ ∀ l, H l = none → Q (.ref l) (upd H l (.tup ys))) ∨ (SqT X.K H p ys ∧ Q (.ref p) H))) [d] δ Φ := fun F σ G H Q vs r hv k => by
  obtain ⟨v, rfl, h⟩ := ra1 hv
  obtain ⟨a, us, rfl, hd, hs⟩ := hx.get r h
  rcases hs with ⟨_, hs⟩ | ⟨z, _⟩
  · exact ⟨_, _, rfl, .inl ⟨hs, fun l hl => k _ _ δ _ _ (r.new hl) (same_new (r.gnone hl)) (.dat (.tup (SqT.of upd_same) (DtAll.mono (same_new (r.gnone hl)) _ _ hd.toDt))) q⟩⟩
  · cases z
theorem RC_tupleT {ds : List D} (q : Φ (.tuple ds) δ) : RC X (fun xs H Q => ∃ p ys, xs = [.ref p] ∧ ((SqL X.K H p ys ∧ ∀ l, H l = none → Q (.ref l) (upd H l (.tup ys))) ∨ (SqT X.K H p ys ∧ Q (.ref p) H))) [.tuple ds] δ Φ := fun F σ G H Q vs r hv k => by
  obtain ⟨v, rfl, h⟩ := ra1 hv
  cases rv_dat h with
  | tup h1 h2 => exact ⟨_, _, rfl, .inr ⟨Same.seqT r.hr.ext h1, k _ _ δ G H r (Same.refl G) (.dat (.tup h1 h2)) q⟩⟩
/-- tuple(xs) of a list of anything: a new tuple -/
theorem RC_tupleO {d : Rv} {rs : List Rv} (hx : SV δ d true rs) (q : ∀ p, Φ (.adr p) ⟨δ.sl, δ.ob ++ [(p, .tup rs)]⟩) : RC X (fun xs H Q => ∃ p ys, xs = [.ref p] ∧ ((SqL X.K H p ys ∧ ∀ l, H l = none → Q (.ref l) (upd H l (.tup ys))) ∨ (SqT X.K H p ys ∧ Q (.ref p) H))) [d] δ Φ := fun F σ G H Q vs r hv k => by
  obtain ⟨v, rfl, h⟩ := ra1 hv
  obtain ⟨a, us, rfl, hd, hs⟩ := hx.get r h
  rcases hs with ⟨_, hs⟩ | ⟨z, _⟩
  · exact ⟨_, _, rfl, .inl ⟨hs, fun l hl => k (.ref l) _ _ _ _ (r.newO hl (.tup hd)) (Same.refl G) .adr (q l)⟩⟩
  · cases z
/-! ### isinstance -/
def tyName : D → String
  | .none => "NoneType"
  | .bool _ => "bool"
  | .int _ => "int"
  | .str _ => "str"
  | .list _ => "list"
  | .tuple _ => "tuple"
  | .dict _ => "dict"
theorem tyx_of {K : PySem.W.Frag} {G H : Hp} {v : V} {d : D} (h : Dt K G v d) (s : Same G H) : TyX K H v (.type (tyName d)) := by
  cases h with
  | non => exact .base .non
  | bl b => exact .base (.bl b)
  | int i => exact .base (.int i)
  | str z => exact .base (.str z)
  | lst h1 _ =>
    rcases Same.seq s h1 with (h | ⟨o, h⟩) | ⟨o, its, n, h, hc, _⟩
    · exact .base (.lst h)
    · exact .base (.frz h)
    · exact .kList h hc
  | tup h1 _ =>
    rcases Same.seqT s h1 with (h | ⟨o, h⟩) | ⟨o, its, n, h, hc, _⟩
    · exact .base (.tup h)
    · exact .fTuple h
    · exact .kTuple h hc
  | dct h1 _ => exact .base (.dK (s _ _ h1))
theorem J_isi {T : Str} {t : String} {p1 p2 : Pos} (h : J X e δ fun q δ1 => ∃ d k, q = .dat d ∧ kitB (tyName d) t = some k ∧ Φ (.bool k) δ1) (hm : X.mg "isinstance" = none) (hT : X.mg T = none) (hv : bootBuiltins T = some (.type t) := by decide +kernel) (hg : Gl X "isinstance" := by rfl) (hgT : Gl X T := by rfl)
    (hn : T ≠ "__name__" := by decide) (hd : (T == ("__debug__" : Str)) = false := by decide) (hs1 : starEach (e :: [.Name T p2]) X.env = (false, eval e X.env) :: starEach [.Name T p2] X.env := by rfl) (hs2 : starEach [.Name T p2] X.env = (false, eval (.Name T p2) X.env) :: starEach [] X.env := by rfl)
    (hpl : (backTo pos (starEach [.Name T p2] X.env)).any (·.1) = false := by rfl) : J X (.Call (.Name "isinstance" p1) [e, .Name T p2] [] pos) δ Φ := fun F σ G H Q r k =>
  U_of (pe_callB call_isi hg hm (by decide +kernel) (pa_cons pe_U (pa_cons (pe_bltn (v := .ty t) hgT hT hv rfl hn hd) pa_nil hs2) hs1) (by decide) (by decide) hs1 hpl)
    (h F σ G H _ r fun v d0 δ1 G1 H1 r1 s1 x1 ⟨d, b, e0, e1, q⟩ => by
    subst e0
    exact ⟨v, .ty t, .type (tyName d), .type t, b, rfl, .ty t, tyx_of (rv_dat x1) r1.hr.ext, kit_ty e1, k (.bl b) _ δ1 G1 H1 r1 s1 (.dat (.bl b)) q⟩)
theorem J_isi2 {T1 T2 : Str} {t1 t2 : String} {p1 p2 p3 p4 : Pos} {x1} (h : J X e δ fun q δ1 => ∃ d k1 k2, q = .dat d ∧ kitB (tyName d) t1 = some k1 ∧ kitB (tyName d) t2 = some k2 ∧ Φ (.bool (k1 || k2)) δ1) (hm : X.mg "isinstance" = none) (hT1 : X.mg T1 = none) (hT2 : X.mg T2 = none)
    (hv1 : bootBuiltins T1 = some (.type t1) := by decide +kernel) (hv2 : bootBuiltins T2 = some (.type t2) := by decide +kernel) (hg : Gl X "isinstance" := by rfl) (hgT1 : Gl X T1 := by rfl) (hgT2 : Gl X T2 := by rfl)
    (hn1 : T1 ≠ "__name__" := by decide) (hd1 : (T1 == ("__debug__" : Str)) = false := by decide) (hn2 : T2 ≠ "__name__" := by decide) (hd2 : (T2 == ("__debug__" : Str)) = false := by decide)
    (hs1 : starEach (e :: [.Tuple [.Name T1 p2, .Name T2 p3] x1 p4]) X.env = (false, eval e X.env) :: starEach [.Tuple [.Name T1 p2, .Name T2 p3] x1 p4] X.env := by rfl)
    (hpl : (backTo pos (starEach [.Tuple [.Name T1 p2, .Name T2 p3] x1 p4] X.env)).any (·.1) = false := by rfl) : J X (.Call (.Name "isinstance" p1) [e, .Tuple [.Name T1 p2, .Name T2 p3] x1 p4] [] pos) δ Φ := fun F σ G H Q r k =>
  U_of (pe_callB call_isiT hg hm (by decide +kernel) (pa_cons pe_U (pa_cons (pe_tup (pa_cons (pe_bltn (v := .ty t1) hgT1 hT1 hv1 rfl hn1 hd1) (pa_cons (pe_bltn (v := .ty t2) hgT2 hT2 hv2 rfl hn2 hd2) pa_nil (by rfl)) (by rfl))) pa_nil (by rfl)) hs1) (by decide) (by decide) hs1 hpl)
    (h F σ G H _ r fun v d0 δ1 G1 H1 r1 s1 x1 ⟨d, b1, b2, e0, e1, e2, q⟩ => ⟨by show 2 ≤ sizeLine; decide, fun p hp => by
      subst e0
      have r2 := r1.new (u := .tup [.ty t1, .ty t2]) hp
      have s2 := same_new (G := G1) (u := HO.tup [.ty t1, .ty t2]) (r1.gnone hp)
      refine ⟨v, p, [.ty t1, .ty t2], .type (tyName d), [.type t1, .type t2], b1 || b2, rfl, upd_same, .cons (.ty t1) (.cons (.ty t2) .nil), tyx_of (Dt.mono s2 _ _ (rv_dat x1)) r2.hr.ext, ?_, k (.bl _) _ δ1 _ _ r2 (s1.trans s2) (.dat (.bl _)) q⟩
      refine kitAny_cons (kit_ty e1) (fun h1 => ?_) (fun h1 => by rw [h1]; rfl)
      rw [h1, Bool.false_or]
      refine kitAny_cons (kit_ty e2) (fun h2 => ?_) (fun h2 => h2)
      rw [h2]
      exact kitAny_nil⟩)
/-! ### in -/
def flatD : D → Bool
  | .none => true
  | .bool _ => true
  | .int _ => true
  | .str _ => true
  | _ => false
theorem flatV_of {K : PySem.W.Frag} {G : Hp} {v : V} {d : D} (h : Dt K G v d) (e : flatD d = true) : flatV v = true := by
  cases h <;> first | rfl | cases e
theorem eqV_of {K : PySem.W.Frag} {G : Hp} {v u : V} {d f : D} (h : Dt K G v d) (h2 : Dt K G u f) (e : flatD d = true) (e2 : flatD f = true) : eqV v u = PyData.eqv d f := by
  cases h <;> cases h2 <;> first | rfl | cases e | cases e2 | (simp [eqV, PyData.eqv])
theorem inV_of {K : PySem.W.Frag} {G : Hp} {v : V} {d : D} (h : Dt K G v d) (e : flatD d = true) : ∀ {vs : List V} {ds : List D}, DtAll K G vs ds → ds.all flatD = true → vs.all flatV = true ∧ inV v vs = ds.any fun z => PyData.eqv z d
  | [], [], _, _ => ⟨rfl, rfl⟩
  | [], _ :: _, k, _ => by cases k
  | _ :: _, [], k, _ => by cases k
  | u :: vs, f :: ds, k, z => by
    cases k with
    | cons k1 k2 =>
      have z' : flatD f = true ∧ ds.all flatD = true := by simpa using z
      obtain ⟨i1, i2⟩ := inV_of h e k2 z'.2
      refine ⟨by simp only [List.all_cons, flatV_of k1 z'.1, i1]; rfl, ?_⟩
      show (eqV u v || inV v vs) = (PyData.eqv f d || ds.any fun z => PyData.eqv z d)
      rw [i2, eqV_of k1 h z'.1 e]
theorem RJ_in {neg : Bool} {x : D} {y : Rv} {bb : Bool} {ds : List D} (hy : SV δ y bb (ds.map .dat)) (hx : flatD x = true) (ha : ds.all flatD = true) (q : Φ (.bool (if neg then !(ds.any fun z => PyData.eqv z x) else ds.any fun z => PyData.eqv z x)) δ) : RJ X (rIn X.K neg) (.dat x) y δ Φ := fun F σ G H Q v u r x1 y1 k => by
  obtain ⟨a, us, rfl, hd, hs⟩ := hy.get r y1
  obtain ⟨i1, i2⟩ := inV_of (rv_dat x1) hx hd.toDt ha
  refine ⟨a, us, rfl, ?_, flatV_of (rv_dat x1) hx, i1, ?_⟩
  · rcases hs with ⟨_, hs⟩ | ⟨_, hs⟩
    · exact .inl hs
    · exact .inr hs
  · rw [i2]
    exact k _ _ δ G H r (Same.refl G) (.dat (.bl _)) q
theorem RJ_inD {x : D} {ds : List D} (hx : SeqAt.shaped x = true) (hy : SeqAt.shaped (.list ds) = true) (q : Φ (.bool (ds.any fun z => PyData.eqv z x)) δ) : RJ X (rInD X.K) (.dat x) (.list ds) δ Φ := fun F σ G H Q v u r x1 y1 k =>
  ⟨x, ds, Dt.dp x v (SeqAt.canLay_of_shaped hx) (Dt.mono r.hr.ext _ _ (rv_dat x1)), Dt.dp _ u (SeqAt.canLay_of_shaped hy) (Dt.mono r.hr.ext _ _ (rv_dat y1)), hx, hy, k _ _ δ G H r (Same.refl G) (.dat (.bl _)) q⟩
/-! ### an item by its place -/
theorem atI_rv {K : PySem.W.Frag} {G : Hp} {vs : List V} {rs : List Rv} {i : Int} {d : Rv} (h : RvAll K G vs rs) (ha : atI rs i = some d) : ∃ w, atI vs i = some w ∧ RvOk K G w d := by
  unfold atI at ha ⊢
  rw [h.length]
  cases e : ixN rs.length i with
  | none => rw [e] at ha; cases ha
  | some j =>
    rw [e] at ha
    exact h.get ha
theorem RJ_ix {x : Rv} {bb : Bool} {xs : List Rv} {i : Int} {d : Rv} (hx : SV δ x bb xs) (ha : atI xs i = some d) (q : Φ d δ) : RJ X (rIx X.K) x (.int i) δ Φ := fun F σ G H Q v u r x1 y1 k => by
  obtain rfl := rv_int y1
  obtain ⟨a, vs, rfl, hv, hs⟩ := hx.get r x1
  obtain ⟨w, hw, hd⟩ := atI_rv hv ha
  rcases hs with ⟨_, hs⟩ | ⟨_, hs⟩
  · exact .inl ⟨a, vs, i, w, rfl, rfl, hs, hw, k w d δ G H r (Same.refl G) hd q⟩
  · exact .inr (.inl ⟨a, vs, i, w, rfl, rfl, hs, hw, k w d δ G H r (Same.refl G) hd q⟩)
theorem J_ix {r : R2} (hr : IxR X r) (h : J X a δ fun x δ1 => J X b δ1 fun y δ2 => RJ X r x y δ2 Φ) (hs : PlainIx b := by exact fun _ _ => rfl) : J X (.Subscript a b pos) δ Φ := fun F σ G H Q rl k =>
  U_of (pe_ix hr pe_U pe_U hs) (h F σ G H _ rl fun v x δ1 G1 H1 r1 s1 x1 q1 => q1 F σ G1 H1 _ r1 fun u y δ2 G2 H2 r2 s2 x2 q2 =>
    q2 F σ G2 H2 Q v u r2 (x1.mono s2) x2 fun w d δ3 G3 H3 r3 s3 x3 q3 => k w d δ3 G3 H3 r3 ((s1.trans s2).trans s3) x3 q3)
/-! ### + and * -/
/-- + of lists: a new one -/
theorem J_cat (h : J X a δ fun x δ1 => J X b δ1 fun y δ2 => ∃ (p q : Addr) (i j : Nat) (xs ys : List Rv), x = .adr p ∧ y = .adr q ∧ δ2.ob[i]? = some (p, MO.lst xs) ∧ δ2.ob[j]? = some (q, MO.lst ys) ∧ xs.length + ys.length ≤ 1000000 ∧ ∀ p, Φ (.adr p) ⟨δ2.sl, δ2.ob ++ [(p, .lst (xs ++ ys))]⟩) : J X (.BinOp a .Add b pos) δ Φ :=
  J_bin op_cat (h.imp fun x δ1 h1 => h1.imp fun y δ2 ⟨p, q, i, j, xs, ys, e1, e2, hi, hj, hl, hq⟩ F σ G H Q v u r x1 y1 k => by
    subst e1 e2
    obtain rfl := rv_adr x1
    obtain rfl := rv_adr y1
    obtain ⟨_, _, w1, a1, a2⟩ := r.at hi
    obtain ⟨_, _, w2, b1, b2⟩ := r.at hj
    cases a2 with
    | lst a2 =>
      cases b2 with
      | lst b2 =>
        refine ⟨p, q, _, _, rfl, rfl, a1, b1, ?_, fun p' hp => k (.ref p') _ _ _ _ (r.newO hp (.lst (a2.append b2))) (Same.refl G) .adr (hq p')⟩
        rw [a2.length, b2.length]
        exact Nat.le_trans hl (by decide))
theorem rep_rv {K : PySem.W.Frag} {G : Hp} {vs : List V} {rs : List Rv} (h : RvAll K G vs rs) : ∀ n : Nat, RvAll K G (List.replicate n vs).flatten (List.replicate n rs).flatten
  | 0 => .nil
  | n + 1 => by
    rw [List.replicate_succ, List.replicate_succ, List.flatten_cons, List.flatten_cons]
    exact h.append (rep_rv h n)
theorem J_rep (h : J X a δ fun x δ1 => J X b δ1 fun y δ2 => ∃ (p : Addr) (i : Nat) (xs : List Rv) (k : Int), x = .adr p ∧ y = .int k ∧ δ2.ob[i]? = some (p, MO.lst xs) ∧ 0 ≤ k ∧ k ≤ 1000 ∧ xs.length ≤ 1000 ∧ ∀ p, Φ (.adr p) ⟨δ2.sl, δ2.ob ++ [(p, .lst (List.replicate k.toNat xs).flatten)]⟩) : J X (.BinOp a .Mult b pos) δ Φ :=
  J_bin op_rep (h.imp fun x δ1 h1 => h1.imp fun y δ2 ⟨p, i, xs, kk, e1, e2, hi, l0, l1, l2, hq⟩ F σ G H Q v u r x1 y1 k => by
    subst e1 e2
    obtain rfl := rv_adr x1
    obtain rfl := rv_int y1
    obtain ⟨_, _, w1, a1, a2⟩ := r.at hi
    cases a2 with
    | lst a2 =>
      refine ⟨p, kk, _, rfl, rfl, a1, by omega, by omega, ?_, fun p' hp => k (.ref p') _ _ _ _ (r.newO hp (.lst (rep_rv a2 _))) (Same.refl G) .adr (hq p')⟩
      rw [a2.length]
      exact Nat.le_trans (Nat.mul_le_mul l2 (by omega : kk.toNat ≤ 1000)) (by decide))
/-! ### slices -/
def cutR {α : Type} (xs : List α) (lo hi : Option Int) : List α := (xs.drop (HT.sIx xs.length 0 lo)).take (HT.sIx xs.length xs.length hi - HT.sIx xs.length 0 lo)
theorem cut_rv {K : PySem.W.Frag} {G : Hp} {vs : List V} {xs : List Rv} (h : RvAll K G vs xs) (lo hi : Option Int) : RvAll K G (cutV vs lo hi) (cutR xs lo hi) := by
  unfold cutV cutR
  rw [h.length]
  exact (h.drop _).take _
theorem cutR_map {xs : List D} (lo hi : Option Int) : cutR (xs.map Rv.dat) lo hi = (cutR xs lo hi).map .dat := by
  unfold cutR
  rw [List.length_map, List.map_take, List.map_drop]
def UO (X : Cx) : Option Expr → TO
  | none => tNoPart
  | some e => tPart (U X e)
theorem po_U {o : Option Expr} : PO X o (UO X o) := by
  cases o with
  | none => exact po_none
  | some e => exact po_some pe_U
def JP (X : Cx) (o : Option Expr) (δ : S) (Φ : Option Int → S → Prop) : Prop :=
  ∀ (F : Hp) (σ : L2.St) (G H : Hp) (Q : Option Int → Hp → Prop), Rel X.K F σ G H δ → (∀ i δ' G' H', Rel X.K F σ G' H' δ' → Same G G' → Φ i δ' → Q i H') → UO X o σ H Q
theorem JP_none {Θ : Option Int → S → Prop} (q : Θ none δ) : JP X none δ Θ := fun F σ G H Q r k => k none δ G H r (Same.refl G) q
theorem JP_some {Θ : Option Int → S → Prop} (h : J X e δ fun d δ1 => ∃ i, d = .int i ∧ Θ (some i) δ1) : JP X (some e) δ Θ := fun F σ G H Q r k => h F σ G H _ r fun v d δ1 G1 H1 r1 s1 x1 ⟨i, e1, q⟩ => by
  subst e1
  obtain rfl := rv_int x1
  exact ⟨i, rfl, k (some i) δ1 G1 H1 r1 s1 q⟩
/-- of a list: a new list -/
theorem J_sliceL {lo hi : Option Expr} (h : J X e δ fun d δ1 => JP X lo δ1 fun l δ2 => JP X hi δ2 fun u δ3 => ∃ xs, SV δ3 d true xs ∧ ∀ p, Φ (.adr p) ⟨δ3.sl, δ3.ob ++ [(p, .lst (cutR xs l u))]⟩) : J X (.Subscript e (.Slice lo hi none p2) pos) δ Φ := fun F σ G H Q rl k =>
  U_of (pe_slice sl_list pe_U po_U po_U) (h F σ G H _ rl fun v d δ1 G1 H1 r1 s1 x1 q1 => q1 F σ G1 H1 _ r1 fun l δ2 G2 H2 r2 s2 q2 => q2 F σ G2 H2 _ r2 fun u δ3 G3 H3 r3 s3 ⟨xs, e1, q3⟩ => by
    obtain ⟨a, us, rfl, hd, hs⟩ := e1.get r3 (x1.mono (s2.trans s3))
    rcases hs with ⟨_, hs⟩ | ⟨z, _⟩
    · exact ⟨_, _, rfl, hs, fun p hp => k (.ref p) _ _ _ _ (r3.newO hp (.lst (cut_rv hd l u))) ((s1.trans s2).trans s3) .adr (q3 p)⟩
    · cases z)
/-- of a tuple of data -/
theorem J_sliceT {lo hi : Option Expr} (h : J X e δ fun d δ1 => JP X lo δ1 fun l δ2 => JP X hi δ2 fun u δ3 => ∃ xs, d = .tuple xs ∧ ¬ (HT.sIx xs.length 0 l = 0 ∧ HT.sIx xs.length xs.length u = xs.length) ∧ Φ (.tuple (cutR xs l u)) δ3) : J X (.Subscript e (.Slice lo hi none p2) pos) δ Φ := fun F σ G H Q rl k =>
  U_of (pe_slice sl_tup pe_U po_U po_U) (h F σ G H _ rl fun v d δ1 G1 H1 r1 s1 x1 q1 => q1 F σ G1 H1 _ r1 fun l δ2 G2 H2 r2 s2 q2 => q2 F σ G2 H2 _ r2 fun u δ3 G3 H3 r3 s3 ⟨xs, e1, nw, q3⟩ => by
    subst e1
    cases Dt.mono (s2.trans s3) _ _ (rv_dat x1) with
    | tup h1 h2 =>
      refine ⟨_, _, rfl, Same.seqT r3.hr.ext h1, by rw [h2.length]; exact nw, fun p hp => k (.ref p) _ _ _ _ (r3.new hp) (((s1.trans s2).trans s3).trans (same_new (r3.gnone hp))) (.dat (.tup (SqT.of upd_same) ?_)) q3⟩
      have h3 := cut_rv (RvAll.ofDt h2) l u
      rw [cutR_map] at h3
      exact DtAll.mono (same_new (r3.gnone hp)) _ _ h3.toDt)
/-! ### what is walked -/
def ItOk (K : PySem.W.Frag) (C : S → Prop) (G : Hp) (J : It) (items : List Rv) : Prop := items.length ≤ sizeLine ∧
  (∀ F σ G' H δ i, Rel K F σ G' H δ → C δ → Same G G' → i < items.length → J.go i H) ∧
  (∀ F σ G' H δ, Rel K F σ G' H δ → C δ → Same G G' → J.stop items.length H) ∧
  (∀ F σ G' H δ i x H', Rel K F σ G' H δ → C δ → Same G G' → i < items.length → J.yld i H x H' → ∃ d G'', items[i]? = some d ∧ Rel K F σ G'' H' δ ∧ Same G' G'' ∧ RvOk K G'' x d)
theorem ItOk.mono {K : PySem.W.Frag} {C : S → Prop} {G G1 : Hp} {J : It} {items : List Rv} (h : ItOk K C G J items) (s : Same G G1) : ItOk K C G1 J items :=
  ⟨h.1, fun F σ G' H δ i r c s' => h.2.1 F σ G' H δ i r c (s.trans s'), fun F σ G' H δ r c s' => h.2.2.1 F σ G' H δ r c (s.trans s'), fun F σ G' H δ i x H' r c s' => h.2.2.2 F σ G' H δ i x H' r c (s.trans s')⟩
def UI (X : Cx) (tg iter : Expr) : TI := fun σ H R => ∀ pins s, Inv X pins σ H s → wpAny (model X.prog X.w) X.A (eval iter X.env) (fun v s1 => wpAny (model X.prog X.w) X.A (pyIter v) (PIE X pins σ tg R) X.xe s1) X.xe s
theorem pi_U {tg iter : Expr} : PI X tg iter (UI X tg iter) := ⟨fun pins s σ H R I h => h pins s I⟩
theorem UI_of {tg iter : Expr} {wi : TI} (h : PI X tg iter wi) {σ : L2.St} {H : Hp} {R : It → Hp → Prop} (q : wi σ H R) : UI X tg iter σ H R := fun pins s I => h.run pins s σ H R I q
/-- what is walked: its items, and what must hold of the state at each turn -/
def JI (X : Cx) (tg iter : Expr) (δ : S) (Φ : (S → Prop) → List Rv → S → Prop) : Prop :=
  ∀ (F : Hp) (σ : L2.St) (G H : Hp) (R : It → Hp → Prop), Rel X.K F σ G H δ →
    (∀ J C items δ' G' H', Rel X.K F σ G' H' δ' → Same G G' → ItOk X.K C G' J items → Φ C items δ' → R J H') → UI X tg iter σ H R
abbrev cYes : S → Prop := fun _ => True
/-- a list, a tuple or a text -/
def iAny (K : PySem.W.Frag) (tl : TE) : TI := fun σ H R => tl σ H fun x H1 => (∃ a xs, x = .ref a ∧ SqL K H1 a xs ∧ (xs.length ≤ sizeLine → R (Itl K a) H1)) ∨ (∃ a xs, x = .ref a ∧ SqT K H1 a xs ∧ (xs.length ≤ sizeLine → R (Itt K a) H1)) ∨ (∃ z, x = .str z ∧ R (Its z) H1)
theorem pi_any {tg l : Expr} {tl : TE} (hl : PE X l tl) : PI X tg l (iAny X.K tl) := by
  refine ⟨fun pins s σ H R I h => ?_⟩
  refine thn (hl.run pins s σ H _ I h) fun v s1 ⟨x, H1, I1, r1, q1⟩ => ?_
  have far : ∀ b ∈ [s1.heap.objs.size], FpOk X pins H1 b := fun b hb => by
    have e : b = s1.heap.objs.size := by simpa using hb
    subst e
    exact I1.fpOk (Nat.le_refl _) (I1.hok.fresh (Nat.le_refl _))
  rcases q1 with ⟨a, xs, e, hq, q⟩ | ⟨a, xs, e, hq, q⟩ | ⟨z, e, q⟩
  · subst e
    cases r1
    obtain ⟨its, rv, pl, hz⟩ := I1.list hq
    exact wpAny_pyIter_list pl.isList ⟨_, [s1.heap.objs.size], _, _, H1, rfl, I1.kept (t' := s1.toks) fun b o e => Heap.get?_push_of_some _ e, turn_list a _, ⟨_, Heap.get?_push_size _ rfl, rfl, rfl⟩, far, q hz⟩
  · subst e
    cases r1
    obtain ⟨its, rv, pl, hz⟩ := I1.tuple hq
    exact wpAny_pyIter_tuple (show s1.heap.IsTuple a its.toArray from pl) ⟨_, [s1.heap.objs.size], _, _, H1, rfl, I1.kept (t' := s1.toks) fun b o e => Heap.get?_push_of_some _ e, turn_tuple a _, ⟨_, Heap.get?_push_size _ rfl, rfl, rfl⟩, far, q hz⟩
  · subst e
    obtain ⟨t, rfl⟩ := r1
    cases ha : z.cps.all (· < 128)
    · exact wpAny_pyIter_wide ha (pi_one (tk := s1.toks) I1 _ (turn_str _ z t "str_iterator" (.inr rfl)) ⟨_, Heap.get?_push_size _ rfl, rfl, rfl⟩ q)
    · exact wpAny_pyIter_ascii ha (pi_one (tk := s1.toks) I1 _ (turn_str _ z t "str_ascii_iterator" (.inl rfl)) ⟨_, Heap.get?_push_size _ rfl, rfl, rfl⟩ q)
theorem RvAll.getV {K : PySem.W.Frag} {G : Hp} : ∀ {vs : List V} {rs : List Rv} {i : Nat} {v : V}, RvAll K G vs rs → vs[i]? = some v → ∃ r, rs[i]? = some r ∧ RvOk K G v r
  | _, _, _, _, .nil, e => by simp at e
  | _, _, 0, _, .cons h _, e => by simp at e; subst e; exact ⟨_, rfl, h⟩
  | _, _, i + 1, v, .cons _ t, e => by
    obtain ⟨r, e1, e2⟩ := RvAll.getV (i := i) t (by simpa using e)
    exact ⟨r, by simpa using e1, e2⟩
theorem itok_list {K : PySem.W.Frag} {G : Hp} {a : Addr} {vs : List V} {ds : List Rv} (h : SqL K G a vs) (hd : RvAll K G vs ds) (hz : vs.length ≤ sizeLine) : ItOk K cYes G (Itl K a) ds := by
  have hl := hd.length
  refine ⟨by omega, fun F σ G' H δ i r _ s hi => ?_, fun F σ G' H δ r _ s => ?_, fun F σ G' H δ i x H' r _ s hi y => ?_⟩
  · exact ⟨vs, vs[i]'(by omega), r.hr.ext.seq (s.seq h), by simp⟩
  · exact ⟨vs, r.hr.ext.seq (s.seq h), by omega⟩
  · obtain ⟨e, y⟩ := y
    subst e
    obtain ⟨d, e1, e2⟩ := hd.getV (y vs (r.hr.ext.seq (s.seq h)))
    exact ⟨d, G', e1, r, Same.refl _, e2.mono s⟩
theorem itok_tup {K : PySem.W.Frag} {G : Hp} {a : Addr} {vs : List V} {ds : List Rv} (h : SqT K G a vs) (hd : RvAll K G vs ds) (hz : vs.length ≤ sizeLine) : ItOk K cYes G (Itt K a) ds := by
  have hl := hd.length
  refine ⟨by omega, fun F σ G' H δ i r _ s hi => ?_, fun F σ G' H δ r _ s => ?_, fun F σ G' H δ i x H' r _ s hi y => ?_⟩
  · exact ⟨vs, vs[i]'(by omega), Same.seqT r.hr.ext (Same.seqT s h), by simp⟩
  · exact ⟨vs, Same.seqT r.hr.ext (Same.seqT s h), by omega⟩
  · obtain ⟨e, y⟩ := y
    subst e
    obtain ⟨d, e1, e2⟩ := hd.getV (y vs (Same.seqT r.hr.ext (Same.seqT s h)))
    exact ⟨d, G', e1, r, Same.refl _, e2.mono s⟩
/-- the list at a stands there with just these items -/
def cHas (a : Addr) (o : MO) : S → Prop := fun δ => (a, o) ∈ δ.ob
theorem itok_listO {K : PySem.W.Frag} {G : Hp} {a : Addr} {ds : List Rv} (hz : ds.length ≤ sizeLine) : ItOk K (cHas a (.lst ds)) G (Itl K a) ds := by
  refine ⟨hz, fun F σ G' H δ i r c s hi => ?_, fun F σ G' H δ r c s => ?_, fun F σ G' H δ i x H' r c s hi y => ?_⟩
  · obtain ⟨_, _, u, h3, h4⟩ := r.hr.obs _ _ c
    cases h4 with
    | lst h4 =>
      obtain ⟨v, e, _⟩ := h4.get (List.getElem?_eq_getElem hi)
      exact ⟨_, v, SqL.of h3, e⟩
  · obtain ⟨_, _, u, h3, h4⟩ := r.hr.obs _ _ c
    cases h4 with
    | lst h4 => exact ⟨_, SqL.of h3, by rw [h4.length]; exact Nat.le_refl _⟩
  · obtain ⟨_, _, u, h3, h4⟩ := r.hr.obs _ _ c
    cases h4 with
    | lst h4 =>
      obtain ⟨e, y⟩ := y
      subst e
      obtain ⟨d, e1, e2⟩ := h4.getV (y _ (SqL.of h3))
      exact ⟨d, G', e1, r, Same.refl _, e2⟩
def signsD (z : Str) : List D := z.cps.toList.map fun c => .str ⟨#[c]⟩
theorem itok_str {K : PySem.W.Frag} {G : Hp} {z : Str} (hz : z.cps.size ≤ sizeLine) : ItOk K cYes G (Its z) ((signsD z).map .dat) := by
  have hl : ((signsD z).map Rv.dat).length = z.cps.size := by simp [signsD]
  refine ⟨by omega, fun F σ G' H δ i r _ s hi => ?_, fun F σ G' H δ r _ s => ?_, fun F σ G' H δ i x H' r _ s hi y => ?_⟩
  · show i < z.cps.size
    omega
  · show z.cps.size ≤ _
    omega
  · obtain ⟨e, c, hc, ex⟩ := y
    subst e ex
    refine ⟨.str ⟨#[c]⟩, G', ?_, r, Same.refl _, .dat (.str _)⟩
    simp [signsD, hc]
/-- data: a list, a tuple -/
theorem JI_dat {tg l : Expr} (h : J X l δ fun d δ1 => ∃ d' ds, d = .dat d' ∧ seqOf d' = some ds ∧ Θ cYes (ds.map .dat) δ1) : JI X tg l δ Θ := fun F σ G H R r k =>
  UI_of (pi_any pe_U) (h F σ G H _ r fun v d δ1 G1 H1 r1 s1 x1 ⟨d', ds, e0, e, q⟩ => by
    subst e0
    cases rv_dat x1 with
    | lst h1 h2 =>
      cases e
      exact .inl ⟨_, _, rfl, Same.seq r1.hr.ext h1, fun hz => k _ _ _ δ1 G1 H1 r1 s1 (itok_list h1 (.ofDt h2) hz) q⟩
    | tup h1 h2 =>
      cases e
      exact .inr (.inl ⟨_, _, rfl, Same.seqT r1.hr.ext h1, fun hz => k _ _ _ δ1 G1 H1 r1 s1 (itok_tup h1 (.ofDt h2) hz) q⟩)
    | _ => cases e)
theorem JI_str {tg l : Expr} (h : J X l δ fun d δ1 => ∃ z : Str, d = .str z ∧ z.cps.size ≤ sizeLine ∧ Θ cYes ((signsD z).map .dat) δ1) : JI X tg l δ Θ := fun F σ G H R r k =>
  UI_of (pi_any pe_U) (h F σ G H _ r fun v d δ1 G1 H1 r1 s1 x1 ⟨z, e, e3, q⟩ => by
    subst e
    obtain rfl := rv_str x1
    exact .inr (.inr ⟨z, rfl, k _ _ _ δ1 G1 H1 r1 s1 (itok_str e3) q⟩))
/-- a list that may change -/
theorem JI_lstO {tg l : Expr} (h : J X l δ fun d δ1 => ∃ (a : Addr) (i : Nat) (rs : List Rv), d = .adr a ∧ δ1.ob[i]? = some (a, MO.lst rs) ∧ Θ (cHas a (.lst rs)) rs δ1) : JI X tg l δ Θ := fun F σ G H R r k =>
  UI_of (pi_any pe_U) (h F σ G H _ r fun v d δ1 G1 H1 r1 s1 x1 ⟨a, i, rs, e, hi, q⟩ => by
    subst e
    obtain rfl := rv_adr x1
    obtain ⟨_, _, u, h3, h4⟩ := r1.at hi
    cases h4 with
    | lst h4 => exact .inl ⟨_, _, rfl, SqL.of h3, fun hz => k _ _ _ δ1 G1 H1 r1 s1 (itok_listO (by rw [← h4.length]; exact hz)) q⟩)
def rangeD (lo : Int) (n : Nat) : List Rv := (List.range n).map fun i => .int (lo + (i : Nat))
theorem rangeD_length {lo : Int} {n : Nat} : (rangeD lo n).length = n := by simp [rangeD]
theorem itok_range {K : PySem.W.Frag} {G : Hp} {lo : Int} {n : Nat} (hz : n ≤ sizeLine) : ItOk K cYes G (Itr lo n) (rangeD lo n) := by
  have hl : (rangeD lo n).length = n := by simp [rangeD]
  refine ⟨by omega, fun F σ G' H δ i r _ s hi => ?_, fun F σ G' H δ r _ s => ?_, fun F σ G' H δ i x H' r _ s hi y => ?_⟩
  · show i < n
    omega
  · show n ≤ _
    omega
  · obtain ⟨e, ex⟩ := y
    subst e ex
    refine ⟨.int (lo + (i : Nat)), G', ?_, r, Same.refl _, .dat (.int _)⟩
    have hi' : i < n := by omega
    simp [rangeD, hi']
theorem JI_range1 {tg a : Expr} (h : J X a δ fun d δ1 => ∃ n : Int, d = .int n ∧ n ≤ 1000000 ∧ -1000000 ≤ n ∧ Θ cYes (rangeD 0 n.toNat) δ1) (hm : X.mg "range" = none) (hg : Gl X "range" := by rfl) (hs : starEach [a] X.env = [(false, eval a X.env)] := by rfl) : JI X tg (.Call (.Name "range" p) [a] [] pos) δ Θ := fun F σ G H R r k =>
  UI_of (pi_range1 hg hm (pa_cons pe_U pa_nil hs) hs) (h F σ G H _ r fun v d δ1 G1 H1 r1 s1 x1 ⟨n, e, hn, hn2, q⟩ => by
    subst e
    obtain rfl := rv_int x1
    exact ⟨n, rfl, by omega, by omega, k _ _ _ δ1 G1 H1 r1 s1 (itok_range (Nat.le_trans (by omega : n.toNat ≤ 1000000) (by decide))) q⟩)
theorem JI_range2 {tg a b : Expr} (h : J X a δ fun d δ1 => J X b δ1 fun d2 δ2 => ∃ m n : Int, d = .int m ∧ d2 = .int n ∧ m ≤ 1000000 ∧ -1000000 ≤ m ∧ n ≤ 1000000 ∧ -1000000 ≤ n ∧ Θ cYes (rangeD m (n - m).toNat) δ2) (hm : X.mg "range" = none) (hg : Gl X "range" := by rfl)
    (hs : starEach [a, b] X.env = [(false, eval a X.env), (false, eval b X.env)] := by rfl) (hs2 : starEach [b] X.env = [(false, eval b X.env)] := by rfl) : JI X tg (.Call (.Name "range" p) [a, b] [] pos) δ Θ := fun F σ G H R r k =>
  UI_of (pi_range2 hg hm (pa_cons pe_U (pa_cons pe_U pa_nil hs2) (by rw [hs, hs2])) hs hs2) (h F σ G H _ r fun v d δ1 G1 H1 r1 s1 x1 q1 => q1 F σ G1 H1 _ r1 fun u d2 δ2 G2 H2 r2 s2 x2 ⟨m, n, e1, e2, h1, h2, h3, h4, q⟩ => by
    subst e1 e2
    obtain rfl := rv_int x1
    obtain rfl := rv_int x2
    exact ⟨m, n, rfl, by omega, k _ _ _ δ2 G2 H2 r2 (s1.trans s2) (itok_range (Nat.le_trans (by omega : (n - m).toNat ≤ 2000000) (by decide))) q⟩)
/-- enumerate of data -/
def enumD (ds : List D) : List Rv := ds.mapIdx fun i d => .tuple [.int (i : Nat), d]
theorem itok_enum {K : PySem.W.Frag} {G : Hp} {a : Addr} {vs : List V} {ds : List D} (h : SqL K G a vs) (hd : DtAll K G vs ds) (hz : vs.length ≤ sizeLine) : ItOk K cYes G (Ite K a) (enumD ds) := by
  have hl := hd.length
  have hl2 : (enumD ds).length = ds.length := by simp [enumD]
  refine ⟨by omega, fun F σ G' H δ i r _ s hi => ?_, fun F σ G' H δ r _ s => ?_, fun F σ G' H δ i x H' r _ s hi y => ?_⟩
  · exact ⟨vs, vs[i]'(by omega), r.hr.ext.seq (s.seq h), by simp⟩
  · exact ⟨vs, r.hr.ext.seq (s.seq h), by omega⟩
  · obtain ⟨T, w, e, hT, e2, y⟩ := y
    subst e e2
    obtain ⟨d, e1, e2⟩ := hd.getV (y vs (r.hr.ext.seq (s.seq h)))
    have sn : Same G' (upd G' T (.tup [.int (i : Nat), w])) := same_new (r.gnone hT)
    refine ⟨.tuple [.int (i : Nat), d], _, ?_, r.new hT, sn, .dat (.tup (SqT.of upd_same) (.cons (.int _) (.cons (Dt.mono (s.trans sn) _ _ e2) .nil)))⟩
    simp [enumD, e1]
theorem JI_enum {a : Expr} {elts : List Expr} {kk : Nat} {tpos : Pos} (h : J X a δ fun d δ1 => ∃ ds, d = .list ds ∧ ds.length ≤ 1000000 ∧ Θ cYes (enumD ds) δ1) (hm : X.mg "enumerate" = none) (hg : Gl X "enumerate" := by rfl) (hs : starEach [a] X.env = [(false, eval a X.env)] := by rfl) :
    JI X (.Tuple elts kk tpos) (.Call (.Name "enumerate" p) [a] [] pos) δ Θ := fun F σ G H R r k =>
  UI_of (pi_enum hg hm (pa_cons pe_U pa_nil hs) hs) (h F σ G H _ r fun v d δ1 G1 H1 r1 s1 x1 ⟨ds, e, hl, q⟩ => by
    subst e
    cases rv_dat x1 with
    | lst h1 h2 => exact ⟨_, _, rfl, Same.seq r1.hr.ext h1, k _ _ _ δ1 G1 H1 r1 s1 (itok_enum h1 h2 (by rw [h2.length]; exact Nat.le_trans hl (by decide))) q⟩)
theorem itok_enumO {K : PySem.W.Frag} {G : Hp} {a : Addr} {ds : List D} (hz : ds.length ≤ sizeLine) : ItOk K (cHas a (.lst (ds.map .dat))) G (Ite K a) (enumD ds) := by
  have hl2 : (enumD ds).length = ds.length := by simp [enumD]
  refine ⟨by omega, fun F σ G' H δ i r c s hi => ?_, fun F σ G' H δ r c s => ?_, fun F σ G' H δ i x H' r c s hi y => ?_⟩
  · obtain ⟨_, _, u, h3, h4⟩ := r.hr.obs _ _ c
    cases h4 with
    | lst h4 =>
      obtain ⟨v, e, _⟩ := h4.toDt.get (List.getElem?_eq_getElem (show i < ds.length by omega))
      exact ⟨_, v, SqL.of h3, e⟩
  · obtain ⟨_, _, u, h3, h4⟩ := r.hr.obs _ _ c
    cases h4 with
    | lst h4 => exact ⟨_, SqL.of h3, by rw [h4.toDt.length]; omega⟩
  · obtain ⟨_, _, u, h3, h4⟩ := r.hr.obs _ _ c
    cases h4 with
    | lst h4 =>
      obtain ⟨T, w, e, hT, e2, y⟩ := y
      subst e e2
      obtain ⟨d, e1, e2⟩ := h4.toDt.getV (y _ (SqL.of h3))
      have sn : Same G' (upd G' T (.tup [.int (i : Nat), w])) := same_new (r.gnone hT)
      refine ⟨.tuple [.int (i : Nat), d], _, ?_, r.new hT, sn, .dat (.tup (SqT.of upd_same) (.cons (.int _) (.cons (Dt.mono sn _ _ e2) .nil)))⟩
      simp [enumD, e1]
theorem JI_enumO {a : Expr} {elts : List Expr} {kk : Nat} {tpos : Pos} (h : J X a δ fun d δ1 => ∃ (p : Addr) (i : Nat) (ds : List D), d = .adr p ∧ δ1.ob[i]? = some (p, MO.lst (ds.map .dat)) ∧ ds.length ≤ 1000000 ∧ Θ (cHas p (.lst (ds.map .dat))) (enumD ds) δ1) (hm : X.mg "enumerate" = none) (hg : Gl X "enumerate" := by rfl) (hs : starEach [a] X.env = [(false, eval a X.env)] := by rfl) :
    JI X (.Tuple elts kk tpos) (.Call (.Name "enumerate" p) [a] [] pos) δ Θ := fun F σ G H R r k =>
  UI_of (pi_enum hg hm (pa_cons pe_U pa_nil hs) hs) (h F σ G H _ r fun v d δ1 G1 H1 r1 s1 x1 ⟨p, i, ds, e, hi, hl, q⟩ => by
    subst e
    obtain rfl := rv_adr x1
    obtain ⟨_, _, u, h3, h4⟩ := r1.at hi
    cases h4 with
    | lst h4 => exact ⟨_, _, rfl, SqL.of h3, k _ _ _ δ1 G1 H1 r1 s1 (itok_enumO (Nat.le_trans hl (by decide))) q⟩)
end
/-- the slots vs forgotten -/
def wipeL (δ : List (Option Rv)) : List Nat → List (Option Rv)
  | [] => δ
  | v :: vs => (wipeL δ vs).set v none
def wipeD (δ : S) (vs : List Nat) : S := ⟨wipeL δ.sl vs, δ.ob⟩
/-- the slots vs of δ put back -/
def backL (δ : List (Option Rv)) : List Nat → List (Option Rv) → List (Option Rv)
  | [], δw => δw
  | v :: vs, δw => (backL δ vs δw).set v (δ[v]?.join)
def backD (δ : S) (vs : List Nat) (δw : S) : S := ⟨backL δ.sl vs δw.sl, δw.ob⟩
theorem wipe_at (σ : L2.St) : ∀ (vs : List Nat) (j : Nat), (wipe σ vs)[j]? = if j ∈ vs then (σ[j]?.map fun _ => none) else σ[j]?
  | [], j => by simp [wipe]
  | v :: vs, j => by
    show ((wipe σ vs).set v none)[j]? = _
    rw [List.getElem?_set, wipe_length, wipe_at σ vs j]
    by_cases hv : v = j
    · subst hv
      by_cases hl : v < σ.length
      · simp [hl]
      · simp [hl]
    · have hv' : ¬ j = v := fun e => hv e.symm
      simp [hv, hv']
theorem wipe_congr {σ σ' : L2.St} {vs : List Nat} (h : ∀ j, j ∉ vs → σ[j]? = σ'[j]?) (hl : σ.length = σ'.length) : wipe σ vs = wipe σ' vs := by
  apply List.ext_getElem?
  intro j
  rw [wipe_at, wipe_at]
  by_cases hj : j ∈ vs
  · rw [if_pos hj, if_pos hj]
    by_cases h1 : j < σ.length
    · have h2 : j < σ'.length := by omega
      simp [h1, h2]
    · have h2 : ¬ j < σ'.length := by omega
      simp [h1, h2]
  · rw [if_neg hj, if_neg hj]
    exact h j hj
theorem wipe_wipe (σ : L2.St) (vs : List Nat) : wipe (wipe σ vs) vs = wipe σ vs := wipe_congr (fun j hj => by rw [wipe_at, if_neg hj]) (wipe_length _ _)
theorem wipe_set {σ : L2.St} {vs : List Nat} {i : Nat} {o : Option V} (h : i ∈ vs) : wipe (σ.set i o) vs = wipe σ vs := wipe_congr (fun j hj => by
  rw [List.getElem?_set_ne]
  intro e
  exact hj (e ▸ h)) (by simp)
theorem wipeL_length (δ : List (Option Rv)) : ∀ vs : List Nat, (wipeL δ vs).length = δ.length
  | [] => rfl
  | v :: vs => by
    show ((wipeL δ vs).set v none).length = _
    rw [List.length_set, wipeL_length δ vs]
theorem wipeL_at (δ : List (Option Rv)) : ∀ (vs : List Nat) (j : Nat), (wipeL δ vs)[j]? = if j ∈ vs then (δ[j]?.map fun _ => none) else δ[j]?
  | [], j => by simp [wipeL]
  | v :: vs, j => by
    show ((wipeL δ vs).set v none)[j]? = _
    rw [List.getElem?_set, wipeL_length, wipeL_at δ vs j]
    by_cases hv : v = j
    · subst hv
      by_cases hl : v < δ.length
      · simp [hl]
      · simp [hl]
    · have hv' : ¬ j = v := fun e => hv e.symm
      simp [hv, hv']
theorem backL_length (δ δw : List (Option Rv)) : ∀ vs : List Nat, (backL δ vs δw).length = δw.length
  | [] => rfl
  | v :: vs => by
    show ((backL δ vs δw).set v _).length = _
    rw [List.length_set, backL_length δ δw vs]
theorem backL_at (δ δw : List (Option Rv)) : ∀ (vs : List Nat) (j : Nat) (s : Rv), (backL δ vs δw)[j]? = some (some s) → (j ∉ vs ∧ δw[j]? = some (some s)) ∨ δ[j]? = some (some s)
  | [], j, s, h => .inl ⟨by simp, h⟩
  | v :: vs, j, s, h => by
    have h' : ((backL δ vs δw).set v (δ[v]?.join))[j]? = some (some s) := h
    by_cases hv : v = j
    · subst hv
      rw [List.getElem?_set] at h'
      split at h'
      · split at h'
        · have e := Option.some.inj h'
          refine .inr ?_
          cases q : δ[v]? with
          | none => rw [q] at e; cases e
          | some o => rw [q] at e; rw [show o = some s from e]
        · cases h'
      · exact absurd rfl (by assumption)
    · rw [List.getElem?_set_ne hv] at h'
      rcases backL_at δ δw vs j s h' with ⟨h1, h2⟩ | h1
      · exact .inl ⟨by simp only [List.mem_cons, not_or]; exact ⟨fun e => hv e.symm, h1⟩, h2⟩
      · exact .inr h1
section
variable {K : PySem.W.Frag} {F G H G1 H1 : Hp} {σ : L2.St} {δ δ1 : S}
theorem Rel.wiped (r : Rel K F σ G H δ) (vs : List Nat) : Rel K F (wipe σ vs) G H (wipeD δ vs) where
  hr := r.hr
  len := by
    show _ = (wipeL δ.sl vs).length
    rw [wipe_length, wipeL_length]; exact r.len
  slo := fun i s e => by
    have e' : (wipeL δ.sl vs)[i]? = some (some s) := e
    rw [wipeL_at] at e'
    rw [wipe_at]
    by_cases hi : i ∈ vs
    · rw [if_pos hi] at e'
      cases z : δ.sl[i]? with
      | none => rw [z] at e'; cases e'
      | some t => rw [z] at e'; cases e'
    · rw [if_neg hi] at e' ⊢
      exact r.slo i s e'
/-- behind a block: the slots that it had for its own are as they were -/
theorem Rel.back {vs : List Nat} {F' : Hp} (r : Rel K F' σ G H δ) (s : Same G G1) (r1 : Rel K F (wipe σ vs) G1 H1 δ1) : Rel K F σ G1 H1 (backD δ vs δ1) where
  hr := r1.hr
  len := by
    have h := r1.len
    rw [wipe_length] at h
    show _ = (backL δ.sl vs δ1.sl).length
    rw [backL_length]
    exact h
  slo := fun i t e => by
    rcases backL_at δ.sl δ1.sl vs i t e with ⟨h1, h2⟩ | h1
    · obtain ⟨v, k1, k2⟩ := r1.slo i t h2
      rw [wipe_at, if_neg h1] at k1
      exact ⟨v, k1, k2⟩
    · obtain ⟨v, k1, k2⟩ := r.slo i _ h1
      exact ⟨v, k1, k2.mono s⟩
end
end SH
end

section
/-! SH4: targets, comprehensions. -/
namespace SH
open PySem PySem.Spec PyProof.Rows L2 DL
def UG (X : Cx) (tg : Expr) : TG := fun v σ H Q => ∀ pins s u, Inv X pins σ H s → RelV v u → wpAny (model X.prog X.w) X.A (assign tg X.env u) (fun _ s' => ∃ σ' H', Inv X pins σ' H' s' ∧ Q σ' H') X.xe s
def UGs (X : Cx) (tgs : List Expr) : TGs := fun vs σ H Q => ∀ pins s us, Inv X pins σ H s → Vals vs us → wpAny (model X.prog X.w) X.A (assignInOrder ((assignEach tgs X.env).map (·.2)) us) (fun _ s' => ∃ σ' H', Inv X pins σ' H' s' ∧ Q σ' H') X.xe s
section
variable {X : Cx} {δ : S} {pos p : Pos} {x : Str} {tg : Expr} {tgs : List Expr}
theorem pg_U : PG X tg (UG X tg) := ⟨fun pins s σ H v u Q I r h => h pins s u I r⟩
theorem pgs_U : PGs X tgs (UGs X tgs) := ⟨fun pins s σ H v u Q I r h => h pins s u I r⟩
theorem UG_of {t : TG} (h : PG X tg t) {v : V} {σ : L2.St} {H : Hp} {Q : L2.St → Hp → Prop} (q : t v σ H Q) : UG X tg v σ H Q := fun pins s u I r => h.run pins s σ H v u Q I r q
theorem UGs_of {t : TGs} (h : PGs X tgs t) {vs : List V} {σ : L2.St} {H : Hp} {Q : L2.St → Hp → Prop} (q : t vs σ H Q) : UGs X tgs vs σ H Q := fun pins s us I r => h.run pins s σ H vs us Q I r q
/-- data put into a target; only the slots ns change -/
def JG (X : Cx) (tg : Expr) (ns : List Nat) (d : Rv) (δ : S) (Φ : S → Prop) : Prop :=
  ∀ (F : Hp) (σ : L2.St) (G H : Hp) (Q : L2.St → Hp → Prop) (v : V), Rel X.K F σ G H δ → RvOk X.K G v d →
    (∀ σ' δ' G' H', Rel X.K F σ' G' H' δ' → Same G G' → wipe σ' ns = wipe σ ns → Φ δ' → Q σ' H') → UG X tg v σ H Q
def JGs (X : Cx) (tgs : List Expr) (ns : List Nat) (ds : List Rv) (δ : S) (Φ : S → Prop) : Prop :=
  ∀ (F : Hp) (σ : L2.St) (G H : Hp) (Q : L2.St → Hp → Prop) (vs : List V), Rel X.K F σ G H δ → RvAll X.K G vs ds →
    (∀ σ' δ' G' H', Rel X.K F σ' G' H' δ' → Same G G' → wipe σ' ns = wipe σ ns → Φ δ' → Q σ' H') → UGs X tgs vs σ H Q
theorem JG_name {ns : List Nat} {d : Rv} {Φ : S → Prop} (i : Nat) (hN : X.N.Nodup) (q : Φ ⟨δ.sl.set i (some d), δ.ob⟩) (hv : i ∈ ns := by simp) (hi : X.N[i]? = some x := by rfl) (hx : Loc X.env.scope x := by first | exact .inl rfl | exact .inr rfl) (hf : X.fn x = true ∨ X.env.scope.names.lookup x = some .local := by first | exact .inl rfl | exact .inr rfl) :
    JG X (.Name x pos) ns d δ Φ := fun F σ G H Q v r h k => UG_of (pg_name hN hi hx hf) (k _ _ G H (r.set h) (Same.refl G) (wipe_set hv) q)
theorem JGs_nil {ns : List Nat} {Φ : S → Prop} (q : Φ δ) : JGs X [] ns [] δ Φ := fun F σ G H Q vs r h k => by
  cases h
  exact UGs_of pgs_nil ⟨rfl, k _ _ G H r (Same.refl G) rfl q⟩
theorem JGs_cons {ns : List Nat} {Φ : S → Prop} {d : Rv} {ds : List Rv} (h : JG X tg ns d δ fun δ1 => JGs X tgs ns ds δ1 Φ) (ha : (assignEach (tg :: tgs) X.env).map (·.2) = assign tg X.env :: (assignEach tgs X.env).map (·.2) := by rfl) : JGs X (tg :: tgs) ns (d :: ds) δ Φ := fun F σ G H Q vs r hv k => by
  cases hv with
  | cons h1 h2 =>
    exact UGs_of (pgs_cons pg_U pgs_U ha) ⟨_, _, rfl, h F σ G H _ _ r h1 fun σ1 δ1 G1 H1 r1 s1 w1 q1 => q1 F σ1 G1 H1 _ _ r1 (h2.mono s1) fun σ2 δ2 G2 H2 r2 s2 w2 q2 => k σ2 δ2 G2 H2 r2 (s1.trans s2) (w2.trans w1) q2⟩
theorem JG_tup {ns : List Nat} {Φ : S → Prop} {ds : List D} {kk : Nat} {n : Nat} (hc : X.calm = true) (h : JGs X tgs ns (ds.map .dat) δ Φ) (hl : ds.length = n := by rfl)
    (hn : (assignEach tgs X.env).length = n := by rfl) (hst : (assignEach tgs X.env).findIdx? (·.1) = none := by rfl) : JG X (.Tuple tgs kk pos) ns (.tuple ds) δ Φ := fun F σ G H Q v r hv k => by
  cases rv_dat hv with
  | tup h1 h2 => exact UG_of (pg_tup hc pgs_U hn hst) ⟨_, _, rfl, Same.seqT r.hr.ext h1, by rw [h2.length]; exact hl, h F σ G H Q _ r (.ofDt h2) k⟩
/-- a tuple of anything, an object -/
theorem JG_tupO {ns : List Nat} {Φ : S → Prop} {rs : List Rv} {kk : Nat} {n : Nat} {p : Addr} (i : Nat) (hc : X.calm = true) (hi : δ.ob[i]? = some (p, .tup rs)) (h : JGs X tgs ns rs δ Φ) (hl : rs.length = n := by rfl)
    (hn : (assignEach tgs X.env).length = n := by rfl) (hst : (assignEach tgs X.env).findIdx? (·.1) = none := by rfl) : JG X (.Tuple tgs kk pos) ns (.adr p) δ Φ := fun F σ G H Q v r hv k => by
  obtain rfl := rv_adr hv
  obtain ⟨_, _, u, h3, h4⟩ := r.at hi
  cases h4 with
  | tup h4 => exact UG_of (pg_tup hc pgs_U hn hst) ⟨_, _, rfl, SqT.of h3, by rw [h4.length]; exact hl, h F σ G H Q _ r h4 k⟩
end
def IsBlk (X : Cx) (scope : Scope) (Y : Cx) : Prop := ∃ (s : Shared) (H : Hp) (C : Addr) (cl : List (Str × Addr)) (fp : List Addr), Y = X.blk s H scope (compEnvC scope cl C X.env) fp
section
variable {X : Cx} {δ : S} {pos p2 : Pos} {elt tg iter : Expr} {ifs : List Expr} {scope : Scope} {own : List (Str × Nat)} {Φ : Post}
/-- a list comprehension, as its rule wishes it -/
def JL (X : Cx) (elt tg iter : Expr) (ifs : List Expr) (scope : Scope) (own : List (Str × Nat)) (δ : S) (Φ : Post) : Prop :=
  ∀ (F : Hp) (σ : L2.St) (G H : Hp) (Q : VK), Rel X.K F σ G H δ → (∀ v d δ' G' H', Rel X.K F σ G' H' δ' → Same G G' → RvOk X.K G' v d → Φ d δ' → Q v H') →
    tLc (UI X tg iter) (fun v σ H Q => ∀ Y, IsBlk X scope Y → UG Y tg v σ H Q) (fun σ H Q => ∀ Y, IsBlk X scope Y → UTs Y ifs σ H Q) (fun σ H Q => ∀ Y, IsBlk X scope Y → U Y elt σ H Q) (own.map (·.2)) σ H Q
theorem J_ofL (hc : X.calm = true) (hN : X.N.Nodup) (ok : BlkOk X.N X.env.scope scope own) (h : JL X elt tg iter ifs scope own δ Φ) (hs : ∀ x, foldedSetIterable iter X.env x = pure x := by intro _; rfl) : J X (.ListComp elt [⟨tg, iter, ifs, 0⟩] scope pos) δ Φ := fun F σ G H Q r k =>
  U_of (pe_lc hc hN pi_U ok
    (fun s H C cl fp => ⟨fun pins s' σ H v u Q I rv h => h _ ⟨s, _, C, cl, fp, rfl⟩ pins s' u I rv⟩) (fun s H C cl fp => ⟨fun pins s' σ H Q I h => h _ ⟨s, _, C, cl, fp, rfl⟩ pins s' I⟩)
    (fun s H C cl fp => ⟨fun pins s' σ H Q I h => h _ ⟨s, _, C, cl, fp, rfl⟩ pins s' I⟩) hs) (h F σ G H Q r k)
/-- y = [..] on one line -/
theorem JS_ofL {E : DE} {y : Str} {py spos : Pos} (i : Nat) (hc : X.calm = true) (hN : X.N.Nodup) (ok : BlkOk X.N X.env.scope scope own) (h : JL X elt tg iter ifs scope own δ fun d δ1 => E.nx ⟨δ1.sl.set i (some d), δ1.ob⟩)
    (hy : X.N[i]? = some y := by rfl) (hyl : X.env.scope.names.lookup y = some .local := by rfl) (hk : X.env.scope.kind = .function := by rfl) (hl : (py.line == pos.line) = true := by rfl)
    (ha : (scope.names.any fun (n, k) => n == y && (k == .local || k == .cell)) = false := by decide +kernel) (hs : ∀ x, foldedSetIterable iter X.env x = pure x := by intro _; rfl) : JS X (.Assign [.Name y py] (.ListComp elt [⟨tg, iter, ifs, 0⟩] scope pos) spos) δ E := fun F σ G H D r ok' =>
  US_of (ps_setLc hc hN hy hyl (sw_true hk hyl hl ha) pi_U ok
    (fun s H C cl fp => ⟨fun pins s' σ H v u Q I rv h => h _ ⟨s, _, C, cl, fp, rfl⟩ pins s' u I rv⟩) (fun s H C cl fp => ⟨fun pins s' σ H Q I h => h _ ⟨s, _, C, cl, fp, rfl⟩ pins s' I⟩)
    (fun s H C cl fp => ⟨fun pins s' σ H Q I h => h _ ⟨s, _, C, cl, fp, rfl⟩ pins s' I⟩) hs) (h F σ G H _ r fun v d δ1 G1 H1 r1 s1 x1 q => ok'.nx _ _ G1 H1 (r1.set x1) s1 q)
theorem JL_lc
    (hi : JI X tg iter δ fun C items δ1 => ∃ I : Nat → List Rv → S → Prop, I 0 [] (wipeD δ1 (own.map (·.2))) ∧ (∀ k acc δ2, I k acc δ2 → C δ2) ∧
      (∀ k d acc δ2, items[k]? = some d → I k acc δ2 → ∀ Y, IsBlk X scope Y → JG Y tg (own.map (·.2)) d δ2 fun δ3 => ∀ Y, IsBlk X scope Y → JTs Y ifs δ3 fun b δ4 =>
        (b = true → ∀ Y, IsBlk X scope Y → J Y elt δ4 fun e δ5 => I (k + 1) (acc ++ [e]) (wipeD δ5 (own.map (·.2)))) ∧ (b = false → I (k + 1) acc (wipeD δ4 (own.map (·.2))))) ∧
      (∀ acc δ2, I items.length acc δ2 → acc.length ≤ items.length → ∀ p, Φ (.adr p) ⟨backL δ1.sl (own.map (·.2)) δ2.sl, δ2.ob ++ [(p, .lst acc)]⟩)) : JL X elt tg iter ifs scope own δ Φ := by
  intro F σ G H Q r k
  refine hi F σ G H _ r fun J C items δ1 G1 H1 r1 s1 io q1 => ?_
  obtain ⟨I, h0, hC, ht, he⟩ := q1
  intro Dl hD
  refine ⟨fun i m H => m = items.length - i ∧ i ≤ items.length ∧ ∃ acc accV δ2 G2, Rel X.K (upd F Dl (.lst accV)) (wipe σ (own.map (·.2))) G2 H δ2 ∧ Same G1 G2 ∧ RvAll X.K G2 accV acc ∧ accV.length ≤ i ∧ I i acc δ2,
    ⟨_, rfl, Nat.zero_le _, [], [], _, G1, (r1.wiped _).on (Same.refl _) ((r1.wiped (own.map (·.2))).hr.newF hD), Same.refl _, .nil, Nat.le_refl _, h0⟩, ?_⟩
  rintro i m H2 ⟨rfl, hle, acc, accV, δ2, G2, r2, s2, ha, hl, hI⟩
  have fD : F Dl = none := r1.hr.fnone hD
  by_cases hlt : i < items.length
  · refine .inr ⟨io.2.1 _ _ _ _ _ i r2 (hC _ _ _ hI) s2 hlt, fun H' => ∃ acc accV δ2 G2, Rel X.K (upd F Dl (.lst accV)) (wipe σ (own.map (·.2))) G2 H' δ2 ∧ Same G1 G2 ∧ RvAll X.K G2 accV acc ∧ accV.length ≤ i + 1 ∧ I (i + 1) acc δ2,
      fun H' w => ⟨items.length - (i + 1), by omega, rfl, hlt, w⟩, fun x H' y => ?_⟩
    obtain ⟨d, G3, e3, r3, s3, x3⟩ := io.2.2.2 _ _ _ _ _ i x H' r2 (hC _ _ _ hI) s2 hlt y
    intro Y hY
    refine ht i d acc δ2 e3 hI Y hY (upd F Dl (.lst accV)) _ G3 H' _ x (by obtain ⟨s, H0, C, cl, fp, rfl⟩ := hY; exact r3) (by obtain ⟨s, H0, C, cl, fp, rfl⟩ := hY; exact x3) fun σ4 δ4 G4 H4 r4 s4 w4 q4 => ?_
    have KY : Y.K = X.K := by obtain ⟨s, H0, C, cl, fp, rfl⟩ := hY; rfl
    rw [KY] at r4
    refine ⟨w4.trans (wipe_wipe _ _), fun Y2 hY2 => ?_⟩
    have KY2 : Y2.K = X.K := by obtain ⟨s, H0, C, cl, fp, rfl⟩ := hY2; rfl
    refine q4 Y2 hY2 (upd F Dl (.lst accV)) σ4 G4 H4 _ (by rw [KY2]; exact r4) fun b δ5 G5 H5 r5 s5 q5 => ?_
    rw [KY2] at r5
    have w5 : wipe σ4 (own.map (·.2)) = wipe σ (own.map (·.2)) := w4.trans (wipe_wipe _ _)
    cases b with
    | true =>
      refine iteT fun Y3 hY3 => ?_
      have KY3 : Y3.K = X.K := by obtain ⟨s, H0, C, cl, fp, rfl⟩ := hY3; rfl
      refine q5.1 rfl Y3 hY3 (upd F Dl (.lst accV)) σ4 G5 H5 _ (by rw [KY3]; exact r5) fun v e δ6 G6 H6 r6 s6 x6 q6 => ?_
      rw [KY3] at r6 x6
      have hz := io.1
      refine ⟨accV, (r6.hr.frm Dl _ upd_same).2, by omega, acc ++ [e], accV ++ [v], _, G6, ?_, ((((s2.trans s3).trans s4).trans s5).trans s6), ?_, ?_, q6⟩
      · have r7 := (r6.on (Same.refl _) (r6.hr.growF (u' := .lst (accV ++ [v])))).wiped (own.map (·.2))
        rw [w5] at r7
        exact r7
      · exact (ha.mono (((s3.trans s4).trans s5).trans s6)).append (.cons x6 .nil)
      · rw [List.length_append, List.length_singleton]
        omega
    | false =>
      have r7 := r5.wiped (own.map (·.2))
      rw [w5] at r7
      exact iteF ⟨acc, accV, _, G5, r7, (((s2.trans s3).trans s4).trans s5), ha.mono ((s3.trans s4).trans s5), by omega, q5.2 rfl⟩
  · have e : i = items.length := by omega
    subst e
    have rb := Rel.back r1 s2 r2
    exact .inl ⟨io.2.2.1 _ _ _ _ _ r2 (hC _ _ _ hI) s2, k (.ref Dl) _ _ G2 H2 (rb.on (Same.refl _) (rb.hr.takeF fD (.lst ha))) (s1.trans s2) .adr (he acc δ2 hI (by rw [← ha.length]; exact hl) Dl)⟩
theorem J_lc (hc : X.calm = true) (hN : X.N.Nodup) (ok : BlkOk X.N X.env.scope scope own)
    (hi : JI X tg iter δ fun C items δ1 => ∃ I : Nat → List Rv → S → Prop, I 0 [] (wipeD δ1 (own.map (·.2))) ∧ (∀ k acc δ2, I k acc δ2 → C δ2) ∧
      (∀ k d acc δ2, items[k]? = some d → I k acc δ2 → ∀ Y, IsBlk X scope Y → JG Y tg (own.map (·.2)) d δ2 fun δ3 => ∀ Y, IsBlk X scope Y → JTs Y ifs δ3 fun b δ4 =>
        (b = true → ∀ Y, IsBlk X scope Y → J Y elt δ4 fun e δ5 => I (k + 1) (acc ++ [e]) (wipeD δ5 (own.map (·.2)))) ∧ (b = false → I (k + 1) acc (wipeD δ4 (own.map (·.2))))) ∧
      (∀ acc δ2, I items.length acc δ2 → acc.length ≤ items.length → ∀ p, Φ (.adr p) ⟨backL δ1.sl (own.map (·.2)) δ2.sl, δ2.ob ++ [(p, .lst acc)]⟩))
    (hs : ∀ x, foldedSetIterable iter X.env x = pure x := by intro _; rfl) : J X (.ListComp elt [⟨tg, iter, ifs, 0⟩] scope pos) δ Φ := J_ofL hc hN ok (JL_lc hi) hs
end
section
variable {X : Cx} {δ : S} {Ψ : Bool → S → Prop} {c : Expr}
theorem JTs_nil (q : Ψ true δ) : JTs X [] δ Ψ := fun F σ G H Q r k => UTs_of pts_nil (k true δ G H r (Same.refl G) q)
theorem JTs_one (h : JT X c δ Ψ) : JTs X [c] δ Ψ := fun F σ G H Q r k => UTs_of (pts_one pt_U) (h F σ G H Q r k)
end
end SH
end

section
/-! SH5: functions, calls, methods, new instances. -/
namespace SH
open PySem PySem.Spec PyProof.Rows L2 DL
/-- room, and nothing that guards a text of itself is running -/
structure GR (k : Nat) (A : Around) : Prop where
  room : Room k A
  gd : A.guards = some []
theorem GR.mono {j k : Nat} {A : Around} (h : GR k A) (l : j ≤ k) : GR j A := ⟨h.room.mono l, h.gd⟩
theorem GR.make {k : Nat} {A : Around} (h : GR (k + 1) A) (C : Addr) (us : List Value) (kw : List (Str × Value)) : GR k (A.under (.builtin "type.__call__" ⟨.ref C :: us, kw⟩)) := ⟨h.room.make C us kw, h.gd⟩
/-- a promise: the arguments and the objects handed; what is wanted of the value and of these objects (and new ones) behind -/
abbrev Spc := S → (Rv → Obs → Prop) → Prop
def spS (K : PySem.W.Frag) (sp : Spc) (vs : List V) (H : Hp) (Q : VK) : Prop := ∃ F G as Φ, Rel K F (vs.map some) G H as ∧ sp as Φ ∧
  ∀ v r ob' G' H', HR K F G' H' ob' → Same G G' → RvOk K G' v r → Φ r ob' → Q v H'
structure FnG (P : Program) (w : World) (K : PySem.W.Frag) (mg : Str → Option Value) (base : Heap) (k : Nat) (f : Addr) (fd : FuncData) (ps : List Str) (sp : Spc) : Prop where
  run : ∀ (A : Around) (outer : List Env) (s : Shared) (H : Hp) (args : Args) (us : List Value) (vs : List V) (Q : VK), GR k A → Env0 P w K mg base A outer s H → BindsTo s fd args (ps.zip us) → Vals vs us → vs.length = ps.length → spS K sp vs H Q →
    codeAny (model P w) A (.call (.ref f) args) (CR CX0 outer P w H s Q E0) s
theorem FnG.mono {P : Program} {w : World} {K : PySem.W.Frag} {mg : Str → Option Value} {base : Heap} {j k : Nat} {f : Addr} {fd : FuncData} {ps : List Str} {sp : Spc} (F : FnG P w K mg base j f fd ps sp) (h : j ≤ k) : FnG P w K mg base k f fd ps sp :=
  ⟨fun A outer s H args us vs Q hr => F.run A outer s H args us vs Q (hr.mono h)⟩
/-- the context of a def's body -/
abbrev bodyX (P : Program) (w : World) (K : PySem.W.Frag) (mg : Str → Option Value) (base : Heap) (N : List Str) (qual : Str) (scope : Scope) (f : Addr) (cdv : Value) (A : Around) (outer : List Env) (s : Shared) (H : Hp) : Cx := (cxOf CX0 P w K mg base N qual scope f cdv A outer s H E0).nox
/-- what a body leaves: some of its objects, in some order -/
def outE (Φ : Rv → Obs → Prop) : DE := { nx := fun δ => ∃ ks : List Nat, ks.Nodup ∧ Φ .none (pickAt ks δ.ob), rt := fun r δ => ∃ ks : List Nat, ks.Nodup ∧ Φ r (pickAt ks δ.ob) }
section
variable {K : PySem.W.Frag} {F G G' H H' : Hp} {σ σ' : L2.St} {as δ : S}
theorem Rel.start {vs : List V} {N : List Str} (r : Rel K F (vs.map some) G H as) : Rel K F (L2.start N vs) G H ⟨as.sl ++ List.replicate (N.length - vs.length) none, as.ob⟩ where
  hr := r.hr
  len := by
    have h := r.len
    rw [List.length_map] at h
    simp [L2.start, h]
  slo := fun i t e => by
    have hl := r.len
    have e' : (as.sl ++ List.replicate (N.length - vs.length) none)[i]? = some (some t) := e
    by_cases hi : i < as.sl.length
    · rw [List.getElem?_append_left hi] at e'
      obtain ⟨v, k1, k2⟩ := r.slo i t e'
      refine ⟨v, ?_, k2⟩
      unfold L2.start
      rw [List.getElem?_append_left (by omega)]
      exact k1
    · rw [List.getElem?_append_right (by omega)] at e'
      have := List.eq_of_mem_replicate (List.mem_of_getElem? e')
      cases this
end
section
variable {P : Program} {w : World} {K : PySem.W.Frag} {mg : Str → Option Value} {base : Heap}
theorem fnG_of {k : Nat} {f : Addr} {name qual : Str} {params : Arguments} {body : List Stmt} {scope : Scope} {dvs : List V} {kws : List (Str × V)} {fd : FuncData} {N ps : List Str} {sp : Spc} (Fd : FunD K name qual params body scope dvs kws f fd) (Sc : FnScope N ps scope)
    (hbody : ∀ (cdv : Value) (A : Around) (outer : List Env) (s : Shared) (H : Hp) (as : S) (Φ : Rv → Obs → Prop), GR k (A.deeper (envOfC qual scope s.heap.objs.size f cdv)) → sp as Φ → as.sl.length = ps.length →
      JSs (bodyX P w K mg base N qual scope f cdv A outer s H) body ⟨as.sl ++ List.replicate (N.length - as.sl.length) none, as.ob⟩ (outE Φ)) :
    FnG P w K mg base (k + 1) f fd ps sp := by
  obtain ⟨oc, od, dV, kV, doc, pm, an, cdv, ct, osl, rfl, lk, hcd, _, _⟩ := Fd.ex
  refine ⟨fun A outer s H args us vs Q hr e0 hb r hl hsp => ?_⟩
  obtain ⟨F, G, as, Φ, rl, hs, hk⟩ := hsp
  have inK : K.In s.heap := e0.mod.kin.keeps (fun b o e => (e0.bs b o e).1)
  have nl : s.heap.NoLimit := e0.mod.nolimit.keeps (fun b o e => (e0.bs b o e).1)
  have kinds : ∀ y ∈ ps.zip us, scope.names.lookup y.1 = some .local ∨ (scope.names.lookup y.1 = some .cell ∧ ((cellsFrom (s.heap.objs.size + 1) scope.names []).lookup y.1).isSome = true) := by
    intro y hy
    rcases Sc.par y.1 (List.of_mem_zip hy).1 with q | q
    · exact Or.inl q
    · exact Or.inr ⟨q, PySem.W.cellsFrom_some _ _ _ (Or.inl q)⟩
  refine codeAny_call_function hr.room.depth (inK _ _ lk) rfl Sc.co Sc.gen rfl (PySem.W.codeRec_of inK hcd) (hb _ _ _ _ (wpAny_newFunctionEnv_cells Sc.kind kinds (fun env he s1 x => ?_)))
  subst he
  refine ⟨nl.keeps x.toInCall.keep, codeAny_func ?_⟩
  have la : as.sl.length = vs.length := by
    have h := rl.len
    rw [List.length_map] at h
    exact h.symm
  have gd : GR k (A.deeper (envOfC qual scope s.heap.objs.size f cdv)) := ⟨hr.room.deeper _, hr.gd⟩
  have hJ := hbody cdv A outer s H as Φ gd hs (la.trans hl)
  have I : Inv (cxOf CX0 P w K mg base N qual scope f cdv A outer s H E0) [] (L2.start N vs) H s1 := inv_start Sc hr.room.hd e0 hl r x
  have rs := rl.start (N := N)
  rw [← la] at rs
  have ends : EndsOk K F G (outE Φ) { nx := fun _ H' => Q .non H', rt := Q } :=
    ⟨fun σ' δ' G' H' r' s' ⟨ks, q1, q2⟩ => hk .non .none _ G' H' (r'.hr.pick q1) s' (.dat .non) q2, fun v d σ' δ' G' H' r' s' x' ⟨ks, q1, q2⟩ => hk v d _ G' H' (r'.hr.pick q1) s' x' q2, fun _ _ _ _ _ _ q => q, fun _ _ _ _ _ _ q => q⟩
  have run := (PSs.nox (X := cxOf CX0 P w K mg base N qual scope f cdv A outer s H E0) (t := USs (bodyX P w K mg base N qual scope f cdv A outer s H) body) pss_U).run [] s1 (L2.start N vs) H _ I (hJ F (L2.start N vs) G H _ rs ends)
  refine wpAny_mono run (fun fl s' hq => ?_) (fun e s' hq => hq)
  cases fl with
  | ret u =>
    obtain ⟨v, σ', H', J, rv, q⟩ := hq
    exact ⟨v, H', J.os, J.bare, J.base, J.hok, rv, q⟩
  | next =>
    obtain ⟨σ', H', J, q⟩ := hq
    exact ⟨.non, H', J.os, J.bare, J.base, J.hok, rfl, q⟩
  | brk =>
    obtain ⟨_, _, _, q⟩ := hq
    exact q.elim
  | cont =>
    obtain ⟨_, _, _, q⟩ := hq
    exact q.elim
end
/-- what a callee keeps: all that is neither frozen nor handed -/
def away (G H : Hp) (ks : List Addr) : Hp := fun a => if G a = none ∧ a ∉ ks then H a else none
theorem away_of {G H : Hp} {ks : List Addr} {a : Addr} {o : HO} (e : away G H ks a = some o) : G a = none ∧ a ∉ ks ∧ H a = some o := by
  unfold away at e
  by_cases h : G a = none ∧ a ∉ ks
  · rw [if_pos h] at e
    exact ⟨h.1, h.2, e⟩
  · rw [if_neg h] at e
    cases e
theorem away_mk {G H : Hp} {ks : List Addr} {a : Addr} {o : HO} (g : G a = none) (n : a ∉ ks) (e : H a = some o) : away G H ks a = some o := by
  unfold away
  rw [if_pos ⟨g, n⟩]
  exact e
theorem away_no {G H : Hp} {ks : List Addr} {a : Addr} (h : a ∈ ks) : away G H ks a = none := by
  unfold away
  rw [if_neg (fun z => z.2 h)]
def keys (ob : Obs) : List Addr := ob.map (·.1)
section
variable {K : PySem.W.Frag} {F G G' H H' : Hp} {ob ob' : Obs}
theorem HR.sub (r : HR K F G H ob) {is : List Nat} (hi : is.Nodup) : HR K (away G H (keys (pickAt is ob))) G H (pickAt is ob) where
  ext := r.ext
  frm := fun a o e => by
    obtain ⟨h1, _, h2⟩ := away_of e
    exact ⟨h1, h2⟩
  obs := fun a o e => by
    obtain ⟨h1, _, h3⟩ := (r.pick hi).obs a o e
    exact ⟨h1, away_no (ob_key e), h3⟩
  nod := (r.pick hi).nod
theorem HR.after (r : HR K F G H ob) (s : Same G G') {is : List Nat} (hi : is.Nodup) (hb : ∀ i ∈ is, i < ob.length) (h : HR K (away G H (keys (pickAt is ob))) G' H' ob') (hl : is.length ≤ ob'.length) (hk : keys (ob'.take is.length) = keys (pickAt is ob)) : HR K F G' H' (putAt is ob' ob) := by
  have hk' : (ob'.take is.length).map (·.1) = pickAt is (ob.map (·.1)) := by
    rw [← pickAt_map]
    exact hk
  have km := putAt_map (·.1) hl hb hk'
  have far : ∀ a o, F a = some o → away G H (keys (pickAt is ob)) a = some o := fun a o e => by
    obtain ⟨h1, h2⟩ := r.frm a o e
    refine away_mk h1 (fun z => ?_) h2
    obtain ⟨⟨b, q⟩, k1, k2⟩ := List.mem_map.mp z
    obtain ⟨_, k3, _⟩ := (r.pick hi).obs b q k1
    cases k2
    rw [e] at k3
    cases k3
  refine ⟨h.ext, fun a o e => h.frm a o (far a o e), fun a o e => ?_, ?_⟩
  · rcases putAt_mem hl e with e | ⟨j, hj, e⟩
    · obtain ⟨h1, h2, h3⟩ := h.obs a o e
      refine ⟨h1, ?_, h3⟩
      cases z : F a with
      | none => rfl
      | some q =>
        rw [far a q z] at h2
        cases h2
    · obtain ⟨h1, h2, u, h3, h4⟩ := r.obs a o (List.mem_of_getElem? e)
      have na : a ∉ keys (pickAt is ob) := fun z => by
        obtain ⟨⟨b, q⟩, k1, k2⟩ := List.mem_map.mp z
        obtain ⟨i, k3, k4⟩ := pickAt_mem k1
        cases k2
        have : i = j := nodup_get r.nod (x := b) (by rw [List.getElem?_map, k4]; rfl) (by rw [List.getElem?_map, e]; rfl)
        exact hj (this ▸ k3)
      obtain ⟨k1, k2⟩ := h.frm a u (away_mk h1 na h3)
      exact ⟨k1, h2, u, k2, h4.mono s⟩
  · rw [km]
    have hn := h.nod
    rw [← List.take_append_drop is.length ob', List.map_append] at hn
    obtain ⟨n1, n2, n3⟩ := List.nodup_append.mp hn
    refine List.nodup_append.mpr ⟨r.nod, n2, fun b hb' c hc e => ?_⟩
    subst e
    obtain ⟨⟨c', q⟩, c1, c2⟩ := List.mem_map.mp hc
    cases c2
    obtain ⟨k1, k2, _⟩ := h.obs c' q (List.mem_of_mem_drop c1)
    obtain ⟨⟨b', q'⟩, b1, b2⟩ := List.mem_map.mp hb'
    have b2' : b' = c' := b2
    subst b2'
    obtain ⟨h1, h2, u, h3, _⟩ := r.obs b' q' b1
    by_cases z : b' ∈ keys (pickAt is ob)
    · have z' : b' ∈ (ob'.take is.length).map (·.1) := by
        have := hk
        unfold keys at this z
        rw [this]
        exact z
      exact n3 b' z' b' hc rfl
    · rw [away_mk h1 z h3] at k2
      cases k2
/-- something that nobody tells of -/
theorem HR.junk (r : HR K F G H ob) {p : Addr} {u : HO} (hp : H p = none) : HR K F G (upd H p u) ob where
  ext := fun b q e => by
    rw [upd_ne (ne_of_none (r.ext b q e) hp)]
    exact r.ext b q e
  frm := fun a q e => by
    obtain ⟨h1, h2⟩ := r.frm a q e
    rw [upd_ne (ne_of_none h2 hp)]
    exact ⟨h1, h2⟩
  obs := fun a q e => by
    obtain ⟨h1, h2, w, h3, h4⟩ := r.obs a q e
    rw [upd_ne (ne_of_none h3 hp)]
    exact ⟨h1, h2, w, h3, h4⟩
  nod := r.nod
end
theorem slots_rv {K : PySem.W.Frag} {G : Hp} {vs : List V} {rs : List Rv} (h : RvAll K G vs rs) (i : Nat) (r : Rv) (e : (rs.map some)[i]? = some (some r)) : ∃ v, (vs.map some)[i]? = some (some v) ∧ RvOk K G v r := by
  rw [List.getElem?_map] at e
  cases q : rs[i]? with
  | none => rw [q] at e; cases e
  | some d =>
    rw [q] at e
    cases e
    obtain ⟨v, e1, e2⟩ := h.get q
    exact ⟨v, by rw [List.getElem?_map, e1]; rfl, e2⟩
section
variable {X : Cx} {δ : S} {Φ : Post} {pos p apos : Pos} {x m : Str} {e o : Expr} {es : List Expr} {k : Nat} {f C : Addr} {fd : FuncData} {ps : List Str} {sp : Spc}
/-- what a call of a promise with these arguments asks, the objects at is being handed -/
def Hand (sp : Spc) (ps : List Str) (rs : List Rv) (δ : S) (Φ : Post) : Prop := ∃ is : List Nat, is.Nodup ∧ (∀ i ∈ is, i < δ.ob.length) ∧ rs.length = ps.length ∧
  sp ⟨rs.map some, pickAt is δ.ob⟩ fun r ob' => is.length ≤ ob'.length ∧ keys (ob'.take is.length) = keys (pickAt is δ.ob) ∧ Φ r ⟨δ.sl, putAt is ob' δ.ob⟩
theorem run_fnG {F G H : Hp} {σ : L2.St} {Q : VK} {A : Around} {s : Shared} {args : Args} {us : List Value} {vs : List V} {rs : List Rv} {δ : S} {Φ : Post} (Fn : FnG X.prog X.w X.K X.mg X.base k f fd ps sp) (hr : GR k A) (e0 : Env0 X.prog X.w X.K X.mg X.base A X.stack s H) (r : Rel X.K F σ G H δ)
    (hb : BindsTo s fd args (ps.zip us)) (rv : Vals vs us) (hv : RvAll X.K G vs rs) (hs : Hand sp ps rs δ Φ)
    (kk : ∀ v d δ' G' H', Rel X.K F σ G' H' δ' → Same G G' → RvOk X.K G' v d → Φ d δ' → Q v H') : codeAny (model X.prog X.w) A (.call (.ref f) args) (CR CX0 X.stack X.prog X.w H s Q E0) s := by
  obtain ⟨is, i1, i2, hl, hs⟩ := hs
  refine Fn.run A X.stack s H args us vs Q hr e0 hb rv (hv.length.trans hl) ⟨_, G, ⟨rs.map some, pickAt is δ.ob⟩, _, ⟨r.hr.sub i1, by rw [List.length_map]; exact hv.length.trans (List.length_map some).symm, slots_rv hv⟩, hs, ?_⟩
  intro v d ob' G' H' h' s' x' ⟨q1, q2, q3⟩
  exact kk v d _ G' H' (r.on s' (r.hr.after s' i1 i2 h' q1 q2)) s' x' q3
theorem ends_call {pins : List (Addr × Obj)} {σ : L2.St} {H : Hp} {s : Shared} {Q : VK} (I : Inv X pins σ H s) {r : Result} {s' : Shared} (h : CR CX0 X.stack X.prog X.w H s Q E0 r s') : match (generalizing := false) r with
    | .ok (.ret v) => EP X pins σ Q v s'
    | .ok _ => False
    | .error e => X.xe e s' := by
  cases r with
  | error e => exact (show False from h).elim
  | ok fl =>
    cases fl with
    | ret u => exact I.after h
    | next => exact h
    | brk => exact h
    | cont => exact h
/-- f(e, ..) -/
theorem J_call (Fn : FnG X.prog X.w X.K X.mg X.base k f fd ps sp) (hr : GR k X.A) (hm : X.mg x = some (.ref f)) (hk : PySem.W.keepIn X.K (.ref f) = true) (hb : Binds X.K fd ps [])
    (h : JA X (e :: es) δ fun rs δ1 => Hand sp ps rs δ1 Φ) (hg : Gl X x := by rfl) (hdb : (x == ("__debug__" : Str)) = false := by decide)
    (he : starEach (e :: es) X.env = (false, eval e X.env) :: starEach es X.env := by rfl) (hpl : (backTo pos (starEach es X.env)).any (·.1) = false := by rfl) : J X (.Call (.Name x p) (e :: es) [] pos) δ Φ := fun F σ G H Q r kk pins s I => by
  refine wpAny_Call_Name_kw (ld_glob I hg hm (PySem.W.callWith_K (h₀ := X.base) I.ok.mod.kin hk ?_ he hpl) hdb)
  refine thn (h F σ G H (fun vs H1 => ∃ ds δ1 G1, Rel X.K F σ G1 H1 δ1 ∧ Same G G1 ∧ RvAll X.K G1 vs ds ∧ Hand sp ps ds δ1 Φ) r (fun vs ds δ1 G1 H1 r1 s1 x1 q1 => ⟨ds, δ1, G1, r1, s1, x1, q1⟩) pos pins s I) fun us s1 hq => ?_
  obtain ⟨vs, H1, I1, rv, ds, δ1, G1, r1, sg, x1, hs⟩ := hq
  have hl : vs.length = ps.length := by
    obtain ⟨_, _, _, hl, _⟩ := hs
    exact x1.length.trans hl
  refine ⟨I1.kIn, wpAny_call (codeAny_mono (run_fnG Fn hr I1.env0 r1 (by
    have := hb s1 us I1.kIn (by rw [List.append_nil, ← rv.length]; exact hl)
    rw [List.append_nil] at this
    exact this) rv x1 hs fun v d δ' G' H' r' s' x' q => kk v d δ' G' H' r' (sg.trans s') x' q) fun r' s' q => ends_call I1 q)⟩
/-- o.m(e, ..) -/
theorem J_meth {pl : Sem Bool} (c : Cls X.K C) (hm : Meth X.K C m f) (Fn : FnG X.prog X.w X.K X.mg X.base k f fd ps sp) (hr : GR k X.A) (hb : Binds X.K fd ps [])
    (h : J X o δ fun r δ1 => ∃ (a dx : Addr) (i : Nat) (fs : List (Str × Rv)), r = .adr a ∧ δ1.ob[i]? = some (a, MO.ins C dx fs) ∧ fs.lookup m = none ∧ JA X (e :: es) δ1 fun rs δ2 => Hand sp ps (.adr a :: rs) δ2 Φ)
    (hst : starEach (e :: es) X.env = (false, eval e X.env) :: starEach es X.env := by rfl) (hpl : (backTo pos (starEach es X.env)).any (·.1) = false := by rfl)
    (ht : eval (.Call (.Attribute o m apos) (e :: es) [] pos) X.env = (do
      let ov ← eval o X.env
      standAt apos.atName
      let (f, first) ← holding [ov] (getMethod ov m pl)
      callWith pos f first (backTo pos (starEach (e :: es) X.env)) (backToKw pos (keywordEach [] X.env))) := by rfl) :
    J X (.Call (.Attribute o m apos) (e :: es) [] pos) δ Φ := fun F σ G H Q r kk pins s I => by
  refine PySem.W.methodCall_KW (pl := pl) (thn (h F σ G H (fun v H1 => ∃ (a dx : Addr) (i : Nat) (fs : List (Str × Rv)) (δ1 : S) (G1 : Hp), v = .ref a ∧ Rel X.K F σ G1 H1 δ1 ∧ Same G G1 ∧ δ1.ob[i]? = some (a, MO.ins C dx fs) ∧ fs.lookup m = none ∧ JA X (e :: es) δ1 fun rs δ2 => Hand sp ps (.adr a :: rs) δ2 Φ) r
    (fun v d δ1 G1 H1 r1 s1 x1 ⟨a, dx, i, fs, e1, e2, e3, q⟩ => ⟨a, dx, i, fs, δ1, G1, by subst e1; exact rv_adr x1, r1, s1, e2, e3, q⟩) pins s I) fun u s1 hq => ?_) ht
  obtain ⟨x, H1, I1, rx, a, dx, i, fs, δ1, G1, rfl, r1, sg, hi, hl, hA⟩ := hq
  obtain rfl : u = Value.ref a := rx
  obtain ⟨_, _, uu, h3, h4⟩ := r1.at hi
  cases h4 with
  | ins h4 =>
    refine getmeth_ok I1 h3 c hm (h4.look0 hl) ?_
    refine PySem.W.callWith_K (first := [.ref a]) (h₀ := X.base) I.ok.mod.kin hm.kp ?_ hst hpl
    refine thn (hA F σ G1 H1 (fun vs H2 => ∃ ds δ2 G2, Rel X.K F σ G2 H2 δ2 ∧ Same G1 G2 ∧ RvAll X.K G2 vs ds ∧ Hand sp ps (.adr a :: ds) δ2 Φ) r1 (fun vs ds δ1 G1 H1 r1 s1 x1 q1 => ⟨ds, δ1, G1, r1, s1, x1, q1⟩) pos pins s1 I1) fun us s2 hq => ?_
    obtain ⟨vs, H2, I2, rv, ds, δ2, G2, r2, sg2, x2, hs⟩ := hq
    have hlen : (V.ref a :: vs).length = ps.length := by
      obtain ⟨_, _, _, hl, _⟩ := hs
      rw [List.length_cons, x2.length]
      exact hl
    have rv' : Vals (.ref a :: vs) (.ref a :: us) := .cons rfl rv
    refine ⟨I2.kIn, wpAny_call (codeAny_mono (run_fnG Fn hr I2.env0 r2 (by
      have := hb s2 (.ref a :: us) I2.kIn (by rw [List.append_nil, ← rv'.length]; exact hlen)
      rw [List.append_nil] at this
      exact this) rv' (.cons .adr x2) hs fun v d δ' G' H' r' s' x' q => kk v d δ' G' H' r' ((sg.trans sg2).trans s') x' q) fun r' s' q => ends_call I2 q)⟩
/-- o.m() -/
theorem J_meth0 {pl : Sem Bool} (c : Cls X.K C) (hm : Meth X.K C m f) (Fn : FnG X.prog X.w X.K X.mg X.base k f fd ps sp) (hr : GR k X.A) (hb : Binds X.K fd ps [])
    (h : J X o δ fun r δ1 => ∃ (a dx : Addr) (i : Nat) (fs : List (Str × Rv)), r = .adr a ∧ δ1.ob[i]? = some (a, MO.ins C dx fs) ∧ fs.lookup m = none ∧ Hand sp ps [.adr a] δ1 Φ)
    (ht : eval (.Call (.Attribute o m apos) [] [] pos) X.env = (do
      let ov ← eval o X.env
      standAt apos.atName
      let (f, first) ← holding [ov] (getMethod ov m pl)
      callWith pos f first (backTo pos (starEach [] X.env)) (backToKw pos (keywordEach [] X.env))) := by rfl) :
    J X (.Call (.Attribute o m apos) [] [] pos) δ Φ := fun F σ G H Q r kk pins s I => by
  refine PySem.W.methodCall_KW (pl := pl) (thn (h F σ G H (fun v H1 => ∃ (a dx : Addr) (i : Nat) (fs : List (Str × Rv)) (δ1 : S) (G1 : Hp), v = .ref a ∧ Rel X.K F σ G1 H1 δ1 ∧ Same G G1 ∧ δ1.ob[i]? = some (a, MO.ins C dx fs) ∧ fs.lookup m = none ∧ Hand sp ps [.adr a] δ1 Φ) r
    (fun v d δ1 G1 H1 r1 s1 x1 ⟨a, dx, i, fs, e1, e2, e3, q⟩ => ⟨a, dx, i, fs, δ1, G1, by subst e1; exact rv_adr x1, r1, s1, e2, e3, q⟩) pins s I) fun u s1 hq => ?_) ht
  obtain ⟨x, H1, I1, rx, a, dx, i, fs, δ1, G1, rfl, r1, sg, hi, hl, hs⟩ := hq
  obtain rfl : u = Value.ref a := rx
  obtain ⟨_, _, uu, h3, h4⟩ := r1.at hi
  cases h4 with
  | ins h4 =>
    refine getmeth_ok I1 h3 c hm (h4.look0 hl) ?_
    have hlen : ([V.ref a] : List V).length = ps.length := by
      obtain ⟨_, _, _, hl, _⟩ := hs
      exact hl
    have rv' : Vals [.ref a] [.ref a] := .cons rfl .nil
    refine PySem.W.callWith_K0 (first := [.ref a]) I1.kIn hm.kp (wpAny_call (codeAny_mono (run_fnG Fn hr I1.env0 r1 (by
      have := hb s1 [.ref a] I1.kIn (by rw [List.append_nil, ← rv'.length]; exact hlen)
      rw [List.append_nil] at this
      exact this) rv' (.cons .adr .nil) hs fun v d δ' G' H' r' s' x' q => kk v d δ' G' H' r' (sg.trans s') x' q) fun r' s' q => ends_call I1 q))
/-- C(e, ..): __init__ on a new instance -/
theorem J_make (M : Mk X.K C f) (Fn : FnG X.prog X.w X.K X.mg X.base k f fd ps sp) (hr : GR (k + 1) X.A) (hm : X.mg x = some (.ref C)) (hb : Binds X.K fd ps [])
    (h : JA X (e :: es) δ fun rs δ1 => ∀ a dx, Hand sp ps (.adr a :: rs) ⟨δ1.sl, δ1.ob ++ [(a, .ins C dx [])]⟩ fun r δ2 => r = .none ∧ Φ (.adr a) δ2) (hg : Gl X x := by rfl) (hdb : (x == ("__debug__" : Str)) = false := by decide)
    (he : starEach (e :: es) X.env = (false, eval e X.env) :: starEach es X.env := by rfl) (hpl : (backTo pos (starEach es X.env)).any (·.1) = false := by rfl) : J X (.Call (.Name x p) (e :: es) [] pos) δ Φ := fun F σ G H Q r kk pins s I => by
  refine wpAny_Call_Name_kw (ld_glob I hg hm ?_ hdb)
  refine PySem.W.callWith_K (h₀ := X.base) I.ok.mod.kin M.kp ?_ he hpl
  refine thn (h F σ G H (fun vs H1 => ∃ ds δ1 G1, Rel X.K F σ G1 H1 δ1 ∧ Same G G1 ∧ RvAll X.K G1 vs ds ∧ ∀ a dx, Hand sp ps (.adr a :: ds) ⟨δ1.sl, δ1.ob ++ [(a, .ins C dx [])]⟩ fun r δ2 => r = .none ∧ Φ (.adr a) δ2) r (fun vs ds δ1 G1 H1 r1 s1 x1 q1 => ⟨ds, δ1, G1, r1, s1, x1, q1⟩) pos pins s I) fun us s1 hq => ?_
  obtain ⟨vs, H1, I1, rv, ds, δ1, G1, r1, sg, x1, hs⟩ := hq
  refine ⟨I1.kIn, ?_⟩
  have hs' := hs (s1.heap.objs.size + 1) s1.heap.objs.size
  have f0 : H1 s1.heap.objs.size = none := I1.hok.fresh (Nat.le_refl _)
  have f1 : H1 (s1.heap.objs.size + 1) = none := I1.hok.fresh (Nat.le_succ _)
  have ne : s1.heap.objs.size + 1 ≠ s1.heap.objs.size := Nat.ne_of_gt (Nat.lt_succ_self _)
  have I2 := Inv.made (C := C) I1
  have r2 : Rel X.K F σ G1 _ ⟨δ1.sl, δ1.ob ++ [(s1.heap.objs.size + 1, .ins C s1.heap.objs.size [])]⟩ :=
    r1.on (Same.refl _) ((r1.hr.junk (u := .own (s1.heap.objs.size + 1)) f0).newO (u := .ins C s1.heap.objs.size []) (by rw [upd_ne ne]; exact f1) (.ins .nil))
  have rv' : Vals (.ref (s1.heap.objs.size + 1) :: vs) (.ref (s1.heap.objs.size + 1) :: us) := .cons rfl rv
  have hlen : (V.ref (s1.heap.objs.size + 1) :: vs).length = ps.length := by
    obtain ⟨_, _, _, hl, _⟩ := hs'
    rw [List.length_cons, x1.length]
    exact hl
  refine wpAny_call (make_map (f := f) I1.kIn M.makes M.init (beq_iff_eq.mp M.fn) (codeAny_mono (run_fnG (Q := fun v H2 => v = .non ∧ Q (.ref (s1.heap.objs.size + 1)) H2) Fn (hr.make C us []) (I2.env0.make C us []) r2 (by
    have := hb _ (.ref (s1.heap.objs.size + 1) :: us) I2.kIn (by rw [List.append_nil, ← rv'.length]; exact hlen)
    rw [List.append_nil] at this
    exact this) rv' (.cons .adr x1) hs' fun v d δ' G' H' r' s' x' q => ⟨by rw [q.1] at x'; exact rv_none x', kk _ _ δ' G' H' r' (sg.trans s') .adr q.2⟩) fun r s' hq' => ?_))
  cases r with
  | error e => exact (show False from hq').elim
  | ok fl =>
    cases fl with
    | ret u =>
      obtain ⟨v, H', I3, rv, ev, q3⟩ := I2.after hq'
      subst ev
      exact ⟨rv, ⟨V.ref (s1.heap.objs.size + 1), H', I3, rfl, q3⟩⟩
    | next => exact False.elim hq'
    | brk => exact False.elim hq'
    | cont => exact False.elim hq'
end
end SH
end

section
/-! SH6: statements. -/
namespace SH
open PySem PySem.Spec PyProof.Rows L2 DL
section
variable {X : Cx} {δ : S} {E : DE} {pos p2 : Pos} {x : Str} {e c : Expr} {st : Stmt} {sts A B : List Stmt}
theorem JSs_nil (q : E.nx δ) : JSs X [] δ E := fun F σ G H D r ok => USs_of pss_nil (ok.nx _ _ _ _ r (Same.refl G) q)
theorem JSs_cons (h : JS X st δ { E with nx := fun δ1 => JSs X sts δ1 E }) : JSs X (st :: sts) δ E := fun F σ G H D r ok =>
  USs_of (pss_cons ps_U pss_U) (h F σ G H { D with nx := USs X sts D } r ⟨fun σ' δ' G' H' r' s' q => q F σ' G' H' D r' (ok.mono s'), ok.rt, ok.bk, ok.ct⟩)
theorem JSs_one (h : JS X st δ E) : JSs X [st] δ E := fun F σ G H D r ok => USs_of (pss_one ps_U) (h F σ G H D r ok)
/-- a statement, then the rest from any state it leaves -/
theorem JSs_via (M : S → Prop) (h : JS X st δ { E with nx := M }) (g : ∀ δ1, M δ1 → JSs X sts δ1 E) : JSs X (st :: sts) δ E := JSs_cons (fun F σ G H D r ok => h F σ G H D r ⟨fun σ' δ' G' H' r' s' q => ok.nx σ' δ' G' H' r' s' (g δ' q), ok.rt, ok.bk, ok.ct⟩)
/-- objects forgotten, or put in another order -/
theorem JSs_pick (ks : List Nat) (hk : ks.Nodup) (h : JSs X sts ⟨δ.sl, pickAt ks δ.ob⟩ E) : JSs X sts δ E := fun F σ G H D r ok => h F σ G H D (r.on (Same.refl _) (r.hr.pick hk)) ok
theorem J_pick {Φ : Post} (ks : List Nat) (hk : ks.Nodup) (h : J X e ⟨δ.sl, pickAt ks δ.ob⟩ Φ) : J X e δ Φ := fun F σ G H Q r k => h F σ G H Q (r.on (Same.refl _) (r.hr.pick hk)) k
theorem JS_ret (h : J X e δ E.rt) : JS X (.Return (some e) pos) δ E := fun F σ G H D r ok =>
  US_of (ps_ret pe_U) (h F σ G H _ r fun v d δ' G' H' r' s' x' q => ok.rt v d σ δ' G' H' r' s' x' q)
theorem JS_expr (h : J X e δ fun _ δ1 => E.nx δ1) (hs : swapsWith e none pos.line X.env = pure false := by rfl) : JS X (.Expr e pos) δ E := fun F σ G H D r ok =>
  US_of (ps_expr pe_U hs) (h F σ G H _ r fun v d δ' G' H' r' s' x' q => ok.nx σ δ' G' H' r' s' q)
theorem JS_pass (q : E.nx δ) : JS X (.Pass pos) δ E := fun F σ G H D r ok => US_of ps_pass (ok.nx _ _ _ _ r (Same.refl G) q)
theorem JS_brk (q : E.bk δ) : JS X (.Break pos) δ E := fun F σ G H D r ok => US_of ps_break (ok.bk _ _ _ _ r (Same.refl G) q)
theorem JS_cont (q : E.ct δ) : JS X (.Continue pos) δ E := fun F σ G H D r ok => US_of ps_continue (ok.ct _ _ _ _ r (Same.refl G) q)
theorem JS_if (h : JT X c δ fun b δ1 => (b = true → JSs X A δ1 E) ∧ (b = false → JSs X B δ1 E)) : JS X (.If c A B pos) δ E := fun F σ G H D r ok =>
  US_of (ps_if pt_U pss_U pss_U) (h F σ G H _ r fun b δ' G' H' r' s' q => by
    cases b with
    | true => exact iteT (q.1 rfl F σ G' H' D r' (ok.mono s'))
    | false => exact iteF (q.2 rfl F σ G' H' D r' (ok.mono s')))
theorem JS_asg {pos' : Pos} (i : Nat) (hN : X.N.Nodup) (h : J X e δ fun d δ1 => E.nx ⟨δ1.sl.set i (some d), δ1.ob⟩) (hi : X.N[i]? = some x := by rfl) (hx : Loc X.env.scope x := by first | exact .inl rfl | exact .inr rfl)
    (hs : swapsWith e (some (.Name x pos')) pos.line X.env = pure false := by rfl) (hf : X.fn x = true ∨ X.env.scope.names.lookup x = some .local := by first | exact .inl rfl | exact .inr rfl) : JS X (.Assign [.Name x pos'] e pos) δ E := fun F σ G H D r ok =>
  US_of (ps_set (i := i) hN hi hx pe_U hs hf) (h F σ G H _ r fun v d δ' G' H' r' s' x' q => ok.nx _ _ G' H' (r'.set x') s' q)
/-- a target of any kind -/
theorem JS_asgG {tg : Expr} (ns : List Nat) (h : J X e δ fun d δ1 => JG X tg ns d δ1 E.nx) (hs : swapsWithSole [tg] e pos.line X.env = pure false := by rfl) (hw : swappedStores [tg] e X.env = pure none := by rfl) (h1 : (assignEach [tg] X.env).map (·.2) = [assign tg X.env] := by rfl) : JS X (.Assign [tg] e pos) δ E := fun F σ G H D r ok =>
  US_of (ps_asg pe_U pg_U hs hw h1) (h F σ G H _ r fun v d δ' G' H' r' s' x' q => q F σ G' H' D.nx v r' x' fun σ2 δ2 G2 H2 r2 s2 w2 q2 => ok.nx σ2 δ2 G2 H2 r2 (s'.trans s2) q2)
/-- a, b = e1, e2 and a, b, c = e1, e2, e3 of local names -/
theorem JS_par {y : Str} {a b : Expr} {px py pt : Pos} {kt k2 pt2} (i j : Nat) (hc : X.calm = true) (hN : X.N.Nodup) (h : JA X [a, b] δ fun rs δ1 => ∃ r1 r2, rs = [r1, r2] ∧ E.nx ⟨(δ1.sl.set i (some r1)).set j (some r2), δ1.ob⟩)
    (hi : X.N[i]? = some x := by rfl) (hj : X.N[j]? = some y := by rfl) (hij : i ≠ j := by decide)
    (hx : X.env.scope.names.lookup x = some .local := by rfl) (hy : X.env.scope.names.lookup y = some .local := by rfl) (hw : swappedStores [.Tuple [.Name x px, .Name y py] kt pt] (.Tuple [a, b] k2 pt2) X.env = pure (some [x, y]) := by rfl) (hs : swapsWithSole [.Tuple [.Name x px, .Name y py] kt pt] (.Tuple [a, b] k2 pt2) pos.line X.env = pure false := by rfl) :
    JS X (.Assign [.Tuple [.Name x px, .Name y py] kt pt] (.Tuple [a, b] k2 pt2) pos) δ E := fun F σ G H D r ok =>
  US_of (ps_par hc hN hi hj hij hx hy pa_U hw hs) (h F σ G H _ r fun vs rs δ1 G1 H1 r1 s1 x1 q1 => by
    obtain ⟨a1, a2, rfl, q⟩ := q1
    obtain ⟨v, w, rfl, h1, h2⟩ := ra2 x1
    exact ⟨v, w, rfl, ok.nx _ _ G1 H1 ((r1.set h1).set h2) s1 q⟩)
theorem JS_par3 {y z : Str} {a b c : Expr} {px py pz pt : Pos} {kt k2 pt2} (i j l : Nat) (hc : X.calm = true) (hN : X.N.Nodup) (h : JA X [a, b, c] δ fun rs δ1 => ∃ r1 r2 r3, rs = [r1, r2, r3] ∧ E.nx ⟨((δ1.sl.set i (some r1)).set j (some r2)).set l (some r3), δ1.ob⟩)
    (hi : X.N[i]? = some x := by rfl) (hj : X.N[j]? = some y := by rfl) (hl : X.N[l]? = some z := by rfl) (hij : i ≠ j := by decide) (hil : i ≠ l := by decide) (hjl : j ≠ l := by decide)
    (hx : X.env.scope.names.lookup x = some .local := by rfl) (hy : X.env.scope.names.lookup y = some .local := by rfl) (hz : X.env.scope.names.lookup z = some .local := by rfl)
    (hw : swappedStores [.Tuple [.Name x px, .Name y py, .Name z pz] kt pt] (.Tuple [a, b, c] k2 pt2) X.env = pure (some [x, y, z]) := by rfl)
    (hs : swapsWithSole [.Tuple [.Name x px, .Name y py, .Name z pz] kt pt] (.Tuple [a, b, c] k2 pt2) pos.line X.env = pure false := by rfl) : JS X (.Assign [.Tuple [.Name x px, .Name y py, .Name z pz] kt pt] (.Tuple [a, b, c] k2 pt2) pos) δ E := fun F σ G H D r ok =>
  US_of (ps_par3 hc hN hi hj hl hij hil hjl hx hy hz pa_U hw hs) (h F σ G H _ r fun vs rs δ1 G1 H1 r1 s1 x1 q => by
    obtain ⟨d1, d2, d3, rfl, q⟩ := q
    cases x1 with
    | cons h1 x1 =>
      obtain ⟨v, w, rfl, h2, h3⟩ := ra2 x1
      exact ⟨_, v, w, rfl, ok.nx _ _ G1 H1 (((r1.set h1).set h2).set h3) s1 q⟩)
/-- x += e of ints -/
theorem JS_aug {pos' : Pos} (i : Nat) (n : Int) (hN : X.N.Nodup) (hs : δ.sl[i]? = some (some (.int n))) (h : J X e δ fun d δ1 => ∃ k, d = .int k ∧ E.nx ⟨δ1.sl.set i (some (.int (n + k))), δ1.ob⟩) (hi : X.N[i]? = some x := by rfl) (hx : Loc X.env.scope x := by first | exact .inl rfl | exact .inr rfl) (hf : X.fn x = true ∨ X.env.scope.names.lookup x = some .local := by first | exact .inl rfl | exact .inr rfl) : JS X (.AugAssign (.Name x pos') .Add e pos) δ E := fun F σ G H D r ok => by
  obtain ⟨v, h1, h2⟩ := r.slo i _ hs
  obtain rfl := rv_int h2
  exact US_of (ps_aug hN hi hx pe_U ip_add hf) ⟨_, h1, h F σ G H _ r fun v d δ1 G1 H1 r1 s1 x1 ⟨k, e1, q⟩ => by
    subst e1
    obtain rfl := rv_int x1
    exact ⟨n, k, rfl, rfl, ok.nx _ _ G1 H1 (r1.set (.dat (.int _))) s1 q⟩⟩
/-- for .. in ..: no else -/
theorem JS_for {tg iter : Expr} {body : List Stmt} (ns : List Nat) (hp : PassesOwn (model X.prog X.w) X.A X.env X.xe) (hc : X.calm = true)
    (h : JI X tg iter δ fun C items δ1 => ∃ I : Nat → S → Prop, I 0 δ1 ∧ (∀ k δ2, I k δ2 → C δ2) ∧
      (∀ k d δ2, items[k]? = some d → I k δ2 → JG X tg ns d δ2 fun δ3 => JSs X body δ3 { nx := I (k + 1), rt := E.rt, bk := E.nx, ct := I (k + 1) }) ∧ (∀ δ2, I items.length δ2 → E.nx δ2)) (hs : ∀ x, foldedSetIterable iter X.env x = pure x := by intro _; rfl) : JS X (.For tg iter body [] pos) δ E := fun F σ G H D r ok => by
  refine US_of (ps_for hp hc pi_U pg_U pss_U hs) ?_
  refine h F σ G H _ r fun J C items δ1 G1 H1 r1 s1 io q1 => ?_
  obtain ⟨I, h0, hC, ht, he⟩ := q1
  refine ⟨fun i m σ H => m = items.length - i ∧ i ≤ items.length ∧ ∃ δ2 G2, Rel X.K F σ G2 H δ2 ∧ Same G1 G2 ∧ I i δ2, ⟨_, rfl, Nat.zero_le _, δ1, G1, r1, Same.refl _, h0⟩, ?_⟩
  rintro i m σ2 H2 ⟨rfl, hle, δ2, G2, r2, s2, hI⟩
  by_cases hlt : i < items.length
  · refine .inr ⟨io.2.1 _ _ _ _ _ i r2 (hC _ _ hI) s2 hlt, fun σ' H' => ∃ δ2 G2, Rel X.K F σ' G2 H' δ2 ∧ Same G1 G2 ∧ I (i + 1) δ2, fun σ' H' w => ⟨items.length - (i + 1), by omega, rfl, hlt, w⟩, fun x H' y => ?_⟩
    obtain ⟨d, G3, e3, r3, s3, x3⟩ := io.2.2.2 _ _ _ _ _ i x H' r2 (hC _ _ hI) s2 hlt y
    refine ht i d δ2 e3 hI F σ2 G3 H' _ x r3 x3 fun σ4 δ4 G4 H4 r4 s4 w4 q4 => ?_
    have sg : Same G1 G4 := (s2.trans s3).trans s4
    exact q4 F σ4 G4 H4 _ r4 ⟨fun σ' δ' G' H' r' s' q => ⟨δ', G', r', sg.trans s', q⟩, fun v d σ' δ' G' H' r' s' x' q => ok.rt v d σ' δ' G' H' r' ((s1.trans sg).trans s') x' q, fun σ' δ' G' H' r' s' q => ok.nx σ' δ' G' H' r' ((s1.trans sg).trans s') q, fun σ' δ' G' H' r' s' q => ⟨δ', G', r', sg.trans s', q⟩⟩
  · have e : i = items.length := by omega
    subst e
    exact .inl ⟨io.2.2.1 _ _ _ _ _ r2 (hC _ _ hI) s2, ok.nx _ _ _ _ r2 (s1.trans s2) (he δ2 hI)⟩
/-- while: the measure n falls at each turn -/
theorem JS_while {body : List Stmt} (hp : PassesOwn (model X.prog X.w) X.A X.env X.xe) (I : Nat → S → Prop) {n : Nat} (h0 : I n δ)
    (ht : ∀ m δ1, I m δ1 → JT X c δ1 fun b δ2 => (b = true → JSs X body δ2 { nx := fun δ3 => ∃ m', m' < m ∧ I m' δ3, rt := E.rt, bk := E.nx, ct := fun δ3 => ∃ m', m' < m ∧ I m' δ3 }) ∧ (b = false → E.nx δ2)) : JS X (.While c body [] pos) δ E := fun F σ G H D r ok => by
  refine US_of (ps_while hp pt_U pss_U) ?_
  refine ⟨fun m σ H => ∃ δ1 G1, Rel X.K F σ G1 H δ1 ∧ Same G G1 ∧ I m δ1, ⟨n, δ, G, r, Same.refl _, h0⟩, ?_⟩
  rintro m σ1 H1 ⟨δ1, G1, r1, s1, hI⟩
  refine ht m δ1 hI F σ1 G1 H1 _ r1 fun b δ2 G2 H2 r2 s2 q => ?_
  cases b with
  | true =>
    refine iteT ⟨fun σ' H' => ∃ m', m' < m ∧ ∃ δ1 G1, Rel X.K F σ' G1 H' δ1 ∧ Same G G1 ∧ I m' δ1, fun σ' H' w => w, ?_⟩
    have sg := s1.trans s2
    refine q.1 rfl F σ1 G2 H2 _ r2 ⟨fun σ' δ' G' H' r' s' ⟨m', hm, hI'⟩ => ⟨m', hm, δ', G', r', sg.trans s', hI'⟩, fun v d σ' δ' G' H' r' s' x' q => ok.rt v d σ' δ' G' H' r' (sg.trans s') x' q, fun σ' δ' G' H' r' s' q => ok.nx σ' δ' G' H' r' (sg.trans s') q, fun σ' δ' G' H' r' s' ⟨m', hm, hI'⟩ => ⟨m', hm, δ', G', r', sg.trans s', hI'⟩⟩
  | false => exact iteF (ok.nx σ1 δ2 G2 H2 r2 (s1.trans s2) (q.2 rfl))
end
end SH
end

section
/-! SH7: objects: fields, lists, dicts. -/
namespace SH
open PySem PySem.Spec PyProof.Rows L2 DL
def putR (f : Str) (v : Rv) : List (Str × Rv) → List (Str × Rv)
  | [] => [(f, v)]
  | (g, x) :: r => if g = f then (g, v) :: r else (g, x) :: putR f v r
section
variable {K : PySem.W.Frag} {G : Hp}
theorem put_kv {f : Str} {v : V} {q : Rv} (h : RvOk K G v q) : ∀ {ws : List (Str × V)} {fs : List (Str × Rv)}, KvAll K G ws fs → KvAll K G (putF f v ws) (putR f q fs)
  | _, _, .nil => .cons h .nil
  | _, _, .cons (k := g) h1 h2 => by
    unfold putF putR
    by_cases e : g = f
    · rw [if_pos e, if_pos e]
      exact .cons h h2
    · rw [if_neg e, if_neg e]
      exact .cons h1 (put_kv h h2)
variable {κ : Type} [DecidableEq κ]
def valR (kvs : List (κ × Rv)) (k : κ) : Option Rv := (kvs.find? fun kv => decide (kv.1 = k)).map (·.2)
def putRk (kvs : List (κ × Rv)) (k : κ) (v : Rv) : List (κ × Rv) :=
  if (kvs.any fun kv => decide (kv.1 = k)) = true then kvs.map (fun kv => if kv.1 = k then (kv.1, v) else kv) else kvs ++ [(k, v)]
def dropR (kvs : List (κ × Rv)) (k : κ) : List (κ × Rv) := kvs.filter fun kv => decide (kv.1 ≠ k)
theorem val_kv {k : κ} : ∀ {ws : List (κ × V)} {kvs : List (κ × Rv)}, KvAll K G ws kvs → (∀ r, valR kvs k = some r → ∃ v, valV ws k = some v ∧ RvOk K G v r) ∧ (valR kvs k = none → valV ws k = none)
  | _, _, .nil => ⟨fun r e => by simp [valR] at e, fun _ => rfl⟩
  | _, _, .cons (k := g) h1 h2 => by
    obtain ⟨i1, i2⟩ := val_kv (k := k) h2
    unfold valR valV at *
    rw [List.find?_cons, List.find?_cons]
    by_cases e : g = k
    · subst e
      simp only [decide_true]
      exact ⟨fun r z => by cases z; exact ⟨_, rfl, h1⟩, fun z => by cases z⟩
    · simp only [decide_eq_false e]
      exact ⟨i1, i2⟩
theorem any_kv {k : κ} : ∀ {ws : List (κ × V)} {kvs : List (κ × Rv)}, KvAll K G ws kvs → (ws.any fun kv => decide (kv.1 = k)) = (kvs.any fun kv => decide (kv.1 = k))
  | _, _, .nil => rfl
  | _, _, .cons h1 h2 => by rw [List.any_cons, List.any_cons, any_kv h2]
theorem map_kv {k : κ} {v : V} {q : Rv} (h : RvOk K G v q) : ∀ {ws : List (κ × V)} {kvs : List (κ × Rv)}, KvAll K G ws kvs → KvAll K G (ws.map fun kv => if kv.1 = k then (kv.1, v) else kv) (kvs.map fun kv => if kv.1 = k then (kv.1, q) else kv)
  | _, _, .nil => .nil
  | _, _, .cons (k := g) h1 h2 => by
    rw [List.map_cons, List.map_cons]
    by_cases e : g = k
    · simp only [e, if_true]
      exact .cons h (map_kv h h2)
    · simp only [e, if_false]
      exact .cons h1 (map_kv h h2)
theorem app_kv : ∀ {ws us : List (κ × V)} {kvs ls : List (κ × Rv)}, KvAll K G ws kvs → KvAll K G us ls → KvAll K G (ws ++ us) (kvs ++ ls)
  | _, _, _, _, .nil, h => h
  | _, _, _, _, .cons h1 h2, h => .cons h1 (app_kv h2 h)
theorem putk_kv {k : κ} {v : V} {q : Rv} (h : RvOk K G v q) {ws : List (κ × V)} {kvs : List (κ × Rv)} (hk : KvAll K G ws kvs) : KvAll K G (putK ws k v) (putRk kvs k q) := by
  unfold putK putRk
  rw [any_kv hk]
  split
  · exact map_kv h hk
  · exact app_kv hk (.cons h .nil)
theorem drop_kv {k : κ} : ∀ {ws : List (κ × V)} {kvs : List (κ × Rv)}, KvAll K G ws kvs → KvAll K G (dropK ws k) (dropR kvs k)
  | _, _, .nil => .nil
  | _, _, .cons (k := g) h1 h2 => by
    have ih := drop_kv (k := k) h2
    unfold dropK dropR at *
    rw [List.filter_cons, List.filter_cons]
    by_cases e : g = k
    · simp only [e, ne_eq, not_true_eq_false, decide_false, Bool.false_eq_true, if_false]
      exact ih
    · simp only [ne_eq, e, not_false_eq_true, decide_true, if_true]
      exact .cons h1 ih
end
theorem some_kv {K : PySem.W.Frag} {G : Hp} {κ : Type} [DecidableEq κ] {k : κ} {ws : List (κ × V)} {kvs : List (κ × Rv)} (h : KvAll K G ws kvs) : (valV ws k).isSome = (valR kvs k).isSome := by
  have z := val_kv (k := k) h
  cases e : valR kvs k with
  | none => rw [z.2 e]; rfl
  | some w =>
    obtain ⟨w', k1, _⟩ := z.1 w e
    rw [k1]
    rfl
theorem rv_key {K : PySem.W.Frag} {G : Hp} {v : V} {k : Key} (h : RvOk K G v (.dat (kD k))) : v = kV k := by
  cases k with
  | inl i => exact rv_int h
  | inr x => exact rv_str h
section
variable {X : Cx} {δ : S} {E : DE} {Φ : Post} {Ψ : Bool → S → Prop} {pos pos' p2 apos cpos : Pos} {f : Str} {e o value i : Expr}
/-! ### fields -/
theorem J_fld (h : J X o δ fun r δ1 => ∃ (a C dx : Addr) (i : Nat) (fs : List (Str × Rv)) (v : Rv), r = .adr a ∧ δ1.ob[i]? = some (a, MO.ins C dx fs) ∧ Cls X.K C ∧ NoAttr X.K C f ∧ fs.lookup f = some v ∧ Φ v δ1)
    (hb : attributeBase o f X.env (eval o X.env) = eval o X.env := by rfl) : J X (.Attribute o f pos) δ Φ := fun F σ G H Q r k =>
  U_of (pe_fld pe_U hb) (h F σ G H _ r fun v d δ1 G1 H1 r1 s1 x1 ⟨a, C, dx, i, fs, w, e1, hi, c, n, l, q⟩ => by
    subst e1
    obtain rfl := rv_adr x1
    obtain ⟨_, _, u, h3, h4⟩ := r1.at hi
    cases h4 with
    | ins h4 =>
      obtain ⟨w', k1, k2⟩ := h4.look l
      exact ⟨a, C, dx, _, w', rfl, h3, c, n, k1, k w' w δ1 G1 H1 r1 s1 k2 q⟩)
theorem JS_fld (h : J X value δ fun v δ1 => J X o δ1 fun r δ2 => ∃ (a C dx : Addr) (i : Nat) (fs : List (Str × Rv)), r = .adr a ∧ δ2.ob[i]? = some (a, MO.ins C dx fs) ∧ Cls X.K C ∧ NoAttr X.K C f ∧ Nat.ble fs.length 900 = true ∧ E.nx ⟨δ2.sl, δ2.ob.set i (a, .ins C dx (putR f v fs))⟩)
    (hs : swapsWith value (some (.Attribute o f pos')) pos.line X.env = pure false := by rfl) : JS X (.Assign [.Attribute o f pos'] value pos) δ E := fun F σ G H D r ok =>
  US_of (ps_fld pe_U pe_U hs) (h F σ G H _ r fun v d δ1 G1 H1 r1 s1 x1 q1 => q1 F σ G1 H1 _ r1 fun u g δ2 G2 H2 r2 s2 x2 ⟨a, C, dx, i, fs, e1, hi, c, n, l, q⟩ => by
    subst e1
    obtain rfl := rv_adr x2
    obtain ⟨_, _, u, h3, h4⟩ := r2.at hi
    cases h4 with
    | ins h4 => exact ⟨a, C, dx, _, rfl, h3, c, n, by have := h4.length; have := Nat.le_of_ble_eq_true l; omega, ok.nx σ _ G2 _ (r2.mutO hi (.ins (put_kv (x1.mono s2) h4))) (s1.trans s2) q⟩)
/-- o.f += e, ints -/
theorem JS_fldAug {tpos : Pos} (h : J X o δ fun r δ1 => ∃ (a C dx : Addr) (n : Int) (i : Nat) (fs : List (Str × Rv)), r = .adr a ∧ δ1.ob[i]? = some (a, MO.ins C dx fs) ∧ Cls X.K C ∧ NoAttr X.K C f ∧ Nat.ble fs.length 900 = true ∧ fs.lookup f = some (.int n) ∧
      J X value δ1 fun v δ2 => ∃ m : Int, v = .int m ∧ δ2.ob[i]? = some (a, MO.ins C dx fs) ∧ E.nx ⟨δ2.sl, δ2.ob.set i (a, .ins C dx (putR f (.int (n + m)) fs))⟩) : JS X (.AugAssign (.Attribute o f tpos) .Add value pos) δ E := fun F σ G H D r ok =>
  US_of (ps_fldaug pe_U pe_U in_add) (h F σ G H _ r fun v d δ1 G1 H1 r1 s1 x1 ⟨a, C, dx, n, i, fs, e1, hi, c, na, l, lk, q⟩ => by
    subst e1
    obtain rfl := rv_adr x1
    obtain ⟨_, _, u, h3, h4⟩ := r1.at hi
    cases h4 with
    | ins h4 =>
      obtain ⟨w', k1, k2⟩ := h4.look lk
      obtain rfl := rv_int k2
      refine ⟨a, C, dx, _, _, rfl, h3, c, na, k1, q F σ G1 H1 _ r1 fun u2 g δ2 G2 H2 r2 s2 x2 ⟨m, e2, hi2, q2⟩ => ?_⟩
      subst e2
      obtain rfl := rv_int x2
      obtain ⟨_, _, u, h5, h6⟩ := r2.at hi2
      cases h6 with
      | ins h6 => exact ⟨n, m, rfl, rfl, dx, _, h5, by have := h6.length; have := Nat.le_of_ble_eq_true l; omega, ok.nx σ _ G2 _ (r2.mutO hi2 (.ins (put_kv (.dat (.int _)) h6))) (s1.trans s2) q2⟩)
/-- o.f as a target -/
theorem pg_fld {to : TE} (ho : PE X o to) : PG X (.Attribute o f pos) (fun v σ H Q => to σ H fun x H1 => ∃ a C dx fs, x = .ref a ∧ H1 a = some (.ins C dx fs) ∧ Cls X.K C ∧ NoAttr X.K C f ∧ fs.length < 1000 ∧ Q σ (upd H1 a (.ins C dx (putF f v fs)))) := by
  refine ⟨fun pins s σ H v u Q I r h => ?_⟩
  rw [assign_Attribute]
  refine wpAny_bind (wpAny_holding (thn (ho.run pins s σ H _ I h) fun ov s1 ⟨x, H1, I1, r1, a, C, dx, fs, ex, ea, c, n, l, q⟩ => ?_))
  subst ex
  obtain rfl : ov = Value.ref a := r1
  refine wpAny_bind (wpAny_standAt (wpAny_bind (wpAny_holding (setattr_ok I1 ea c n l r fun s2 I2 => ?_))))
  exact wpAny_release ⟨σ, _, I2, q⟩
theorem JG_fld {ns : List Nat} {v : Rv} {Θ : S → Prop} (h : J X o δ fun r δ2 => ∃ (a C dx : Addr) (i : Nat) (fs : List (Str × Rv)), r = .adr a ∧ δ2.ob[i]? = some (a, MO.ins C dx fs) ∧ Cls X.K C ∧ NoAttr X.K C f ∧ Nat.ble fs.length 900 = true ∧ Θ ⟨δ2.sl, δ2.ob.set i (a, .ins C dx (putR f v fs))⟩) : JG X (.Attribute o f pos) ns v δ Θ := fun F σ G H Q w r hv k =>
  UG_of (pg_fld pe_U) (h F σ G H _ r fun u g δ2 G2 H2 r2 s2 x2 ⟨a, C, dx, i, fs, e1, hi, c, n, l, q⟩ => by
    subst e1
    obtain rfl := rv_adr x2
    obtain ⟨_, _, u, h3, h4⟩ := r2.at hi
    cases h4 with
    | ins h4 => exact ⟨a, C, dx, _, rfl, h3, c, n, by have := h4.length; have := Nat.le_of_ble_eq_true l; omega, k σ _ G2 _ (r2.mutO hi (.ins (put_kv (hv.mono s2) h4))) s2 rfl q⟩)
/-! ### lists -/
theorem J_append (h : J X o δ fun r δ1 => ∃ (a : Addr) (rs0 : List Rv) (j : Nat), r = .adr a ∧ δ1.ob[j]? = some (a, MO.lst rs0) ∧ J X e δ1 fun v δ2 => ∃ (i : Nat) (rs : List Rv), δ2.ob[i]? = some (a, MO.lst rs) ∧ rs.length < 1000000 ∧ Φ .none ⟨δ2.sl, δ2.ob.set i (a, .lst (rs ++ [v]))⟩)
    (hbase : attributeBase o "append" X.env (eval o X.env) = eval o X.env := by rfl)
    (hfew : ((backTo cpos (starEach [e] X.env)).all (fun x => !x.1) && (backToKw cpos (keywordEach [] X.env)).all (fun x => x.1.isSome)
      && decide (([e] : List Expr).length + ([] : List Keyword).length + (if ([] : List Keyword).isEmpty then 0 else 1) < 30)) = true := by rfl)
    (hline : (apos.endLine == cpos.line) = true := by rfl) (hs : starEach [e] X.env = (false, eval e X.env) :: starEach [] X.env := by rfl) (hplain : (backTo cpos (starEach [] X.env)).any (·.1) = false := by rfl) : J X (.Call (.Attribute o "append" apos) [e] [] cpos) δ Φ := fun F σ G H Q r k =>
  U_of (pe_bm PySem.F.plainAttrs_list PySem.F.slot_list_append PySem.F.type_list_append mt_append pe_U (pa_cons pe_U pa_nil hs) hbase hfew hline hs hplain) (h F σ G H _ r fun v d δ1 G1 H1 r1 s1 x1 ⟨a, rs0, j, e1, hj, q1⟩ => by
    subst e1
    obtain rfl := rv_adr x1
    obtain ⟨_, _, u, h3, h4⟩ := r1.at hj
    cases h4 with
    | lst h4 =>
      refine ⟨.inl ⟨rfl, _, SqL.of h3⟩, q1 F σ G1 H1 _ r1 fun w g δ2 G2 H2 r2 s2 x2 ⟨i, rs, hi, l, q⟩ => ?_⟩
      obtain ⟨_, _, u, h5, h6⟩ := r2.at hi
      cases h6 with
      | lst h6 => exact ⟨a, _, w, rfl, rfl, h5, by rw [h6.length]; exact Nat.lt_of_lt_of_le l (by decide), k .non _ _ G2 _ (r2.mutO hi (.lst (h6.append (.cons x2 .nil)))) (s1.trans s2) (.dat .non) q⟩)
/-- xs.pop() -/
theorem J_pop (h : J X o δ fun r δ1 => ∃ (a : Addr) (rs : List Rv) (y : Rv) (j : Nat), r = .adr a ∧ δ1.ob[j]? = some (a, MO.lst rs) ∧ rs[rs.length - 1]? = some y ∧ Φ y ⟨δ1.sl, δ1.ob.set j (a, .lst rs.dropLast)⟩)
    (hbase : attributeBase o "pop" X.env (eval o X.env) = eval o X.env := by rfl) (hline : (apos.endLine == cpos.line) = true := by rfl) : J X (.Call (.Attribute o "pop" apos) [] [] cpos) δ Φ := fun F σ G H Q r k =>
  U_of (pe_bm0 PySem.F.plainAttrs_list PySem.F.slot_list_pop PySem.F.type_list_pop mt_pop pe_U hbase hline) (h F σ G H _ r fun v d δ1 G1 H1 r1 s1 x1 ⟨a, rs, y, j, e1, hj, hy, q1⟩ => by
    subst e1
    obtain rfl := rv_adr x1
    obtain ⟨_, _, u, h3, h4⟩ := r1.at hj
    cases h4 with
    | lst h4 =>
      obtain ⟨w, k1, k2⟩ := h4.get hy
      exact ⟨.inl ⟨rfl, _, SqL.of h3⟩, a, _, w, rfl, rfl, h3, by rw [h4.length]; exact k1, k w y _ G1 _ (r1.mutO hj (.lst h4.dropLast)) s1 k2 q1⟩)
/-! list.extend(a tuple) -/
theorem list_extend_tup (l : Addr) (items : Array Value) (n : Nat) (b : Addr) (items2 : Array Value) (n2 : Nat) (dd : Option Addr) (sl : Array (Option Value)) (hs0 : ¬(!items.isEmpty && Builtin.List.listTooLong (items.size + items2.size)) = true) (hs1 : items.size ≤ sizeLine) (hs2 : items.size + items2.size ≤ sizeLine + 1) :
    Meets (Builtin.«list.extend» ⟨[.ref l, .ref b], []⟩) (fun _ R s => s.heap.get? l = some { cls := .type "list", dict := none, data := .seq items n, slots := #[] } ∧ s.heap.get? b = some { cls := .type "tuple", dict := dd, data := .seq items2 n2, slots := sl } ∧ R (.ok (.ret Value.none)) { s with heap := s.heap.update l (Obj.mapSeq fun x => x ++ items2), toks := s.toks }) :=
  .of_wp fun prog w A R s h => by
    obtain ⟨hp, g, d, tk, os⟩ := s; obtain ⟨hl, hb, h⟩ := h; have f1 := AutoSeq1.idx_int; have f2 := AutoSeq1.sub_tuple_tuple; have f3 := AutoSeq1.sub_list_list; have f4 := AutoSeq1.sub_tuple_list; have f5 := AutoSeq1.sub_list_tuple;
    have hz' : (items ++ items2).size ≤ sizeLine + 1 := by rw [Array.size_append]; exact hs2
    wp_walk using (wpAny_updateSeq hl rfl (hz := hs1) (_hz' := hz')), AutoSeq1.wpAny_loadPart' hl, AutoSeq1.wpAny_loadPart' hb; exact ⟨_, rfl, h⟩
def rExtT (K : PySem.W.Frag) : V → List V → Hp → VK → Prop := fun x vs H Q => ∃ l b xs zs, x = .ref l ∧ vs = [.ref b] ∧ H l = some (.lst xs) ∧ SqT K H b zs ∧ xs.length + zs.length ≤ sizeLine ∧ Q .non (upd H l (.lst (xs ++ zs)))
theorem mt_extT : MtM X "list.extend" (rExtT X.K) := by
  intro pins s σ H x vs v us Q I rx rv h
  obtain ⟨l, b, xs, zs, rfl, rfl, hH, hB, hz, q⟩ := h
  cases rx
  obtain ⟨u, rfl, ru⟩ := rv.one
  cases ru
  obtain ⟨z, its, n, r, hl, e⟩ := I.lstM hH
  obtain ⟨its2, r2, ⟨⟨cls, dd, data, sl⟩, e2, hc, n2, hd⟩, hz2⟩ := I.tuple hB
  simp only at hc hd
  subst hc hd
  have hl2 : zs.length = its2.length := r2.length
  have hsz : its.toArray.size + its2.toArray.size ≤ sizeLine := by rw [List.size_toArray, List.size_toArray]; omega
  have hlong : ¬ (!its.toArray.isEmpty && Builtin.List.listTooLong (its.toArray.size + its2.toArray.size)) = true := by
    rw [notLongL hsz, Bool.and_false]
    exact Bool.false_ne_true
  refine call_meets F.slot_list_extend ⟨_, e, rfl⟩ F.entry_list_extend (F.args_list_extend_2 _ _)
    (list_extend_tup l its.toArray n b its2.toArray n2 dd sl hlong (by rw [List.size_toArray]; omega) (by omega)) ⟨e, e2, ?_⟩
  refine ⟨.non, _, I.lset (its' := its ++ its2) hH e (by simp) (r.append r2) ?_, rfl, q⟩
  rw [List.length_append]
  omega
/-- xs.extend(ys), ys a list or a tuple -/
theorem J_extend (h : J X o δ fun r δ1 => ∃ (a : Addr) (rs0 : List Rv) (j : Nat), r = .adr a ∧ δ1.ob[j]? = some (a, MO.lst rs0) ∧ J X e δ1 fun v δ2 => ∃ (i : Nat) (rs : List Rv) (ds : List Rv), δ2.ob[i]? = some (a, MO.lst rs) ∧ SV δ2 v false ds ∧ rs.length + ds.length ≤ 1000000 ∧ Φ .none ⟨δ2.sl, δ2.ob.set i (a, .lst (rs ++ ds))⟩)
    (hbase : attributeBase o "extend" X.env (eval o X.env) = eval o X.env := by rfl)
    (hfew : ((backTo cpos (starEach [e] X.env)).all (fun x => !x.1) && (backToKw cpos (keywordEach [] X.env)).all (fun x => x.1.isSome)
      && decide (([e] : List Expr).length + ([] : List Keyword).length + (if ([] : List Keyword).isEmpty then 0 else 1) < 30)) = true := by rfl)
    (hline : (apos.endLine == cpos.line) = true := by rfl) (hs : starEach [e] X.env = (false, eval e X.env) :: starEach [] X.env := by rfl) (hplain : (backTo cpos (starEach [] X.env)).any (·.1) = false := by rfl) : J X (.Call (.Attribute o "extend" apos) [e] [] cpos) δ Φ := fun F σ G H Q r k =>
  U_of (pe_bm PySem.F.plainAttrs_list PySem.F.slot_list_extend PySem.F.type_list_extend mt_extT pe_U (pa_cons pe_U pa_nil hs) hbase hfew hline hs hplain) (h F σ G H _ r fun v d δ1 G1 H1 r1 s1 x1 ⟨a, rs0, j, e1, hj, q1⟩ => by
    subst e1
    obtain rfl := rv_adr x1
    obtain ⟨_, _, u, h3, h4⟩ := r1.at hj
    cases h4 with
    | lst h4 =>
      refine ⟨.inl ⟨rfl, _, SqL.of h3⟩, q1 F σ G1 H1 _ r1 fun w g δ2 G2 H2 r2 s2 x2 ⟨i, rs, ds, hi, hv, l, q⟩ => ?_⟩
      obtain ⟨_, _, u, h5, h6⟩ := r2.at hi
      obtain ⟨b, us, rfl, hd, hs⟩ := hv.get r2 x2
      rcases hs with ⟨z, _⟩ | ⟨_, hs⟩
      · cases z
      · cases h6 with
        | lst h6 => exact ⟨a, b, _, us, rfl, rfl, h5, hs, by rw [h6.length, hd.length]; exact Nat.le_trans l (by decide), k .non _ _ G2 _ (r2.mutO hi (.lst (h6.append hd))) (s1.trans s2) (.dat .non) q⟩)
theorem J_extendL (h : J X o δ fun r δ1 => ∃ (a : Addr) (rs0 : List Rv) (j : Nat), r = .adr a ∧ δ1.ob[j]? = some (a, MO.lst rs0) ∧ J X e δ1 fun v δ2 => ∃ (i i2 : Nat) (b : Addr) (rs : List Rv) (ds : List Rv), δ2.ob[i]? = some (a, MO.lst rs) ∧ v = .adr b ∧ δ2.ob[i2]? = some (b, MO.lst ds) ∧ rs.length + ds.length ≤ 1000000 ∧ Φ .none ⟨δ2.sl, δ2.ob.set i (a, .lst (rs ++ ds))⟩)
    (hbase : attributeBase o "extend" X.env (eval o X.env) = eval o X.env := by rfl)
    (hfew : ((backTo cpos (starEach [e] X.env)).all (fun x => !x.1) && (backToKw cpos (keywordEach [] X.env)).all (fun x => x.1.isSome)
      && decide (([e] : List Expr).length + ([] : List Keyword).length + (if ([] : List Keyword).isEmpty then 0 else 1) < 30)) = true := by rfl)
    (hline : (apos.endLine == cpos.line) = true := by rfl) (hs : starEach [e] X.env = (false, eval e X.env) :: starEach [] X.env := by rfl) (hplain : (backTo cpos (starEach [] X.env)).any (·.1) = false := by rfl) : J X (.Call (.Attribute o "extend" apos) [e] [] cpos) δ Φ := fun F σ G H Q r k =>
  U_of (pe_bm PySem.F.plainAttrs_list PySem.F.slot_list_extend PySem.F.type_list_extend mt_extend pe_U (pa_cons pe_U pa_nil hs) hbase hfew hline hs hplain) (h F σ G H _ r fun v d δ1 G1 H1 r1 s1 x1 ⟨a, rs0, j, e1, hj, q1⟩ => by
    subst e1
    obtain rfl := rv_adr x1
    obtain ⟨_, _, u, h3, h4⟩ := r1.at hj
    cases h4 with
    | lst h4 =>
      refine ⟨.inl ⟨rfl, _, SqL.of h3⟩, q1 F σ G1 H1 _ r1 fun w g δ2 G2 H2 r2 s2 x2 ⟨i, i2, b, rs, ds, hi, e2, hi2, l, q⟩ => ?_⟩
      subst e2
      obtain rfl := rv_adr x2
      obtain ⟨_, _, u, h5, h6⟩ := r2.at hi
      obtain ⟨_, _, u, h7, h8⟩ := r2.at hi2
      cases h6 with
      | lst h6 =>
        cases h8 with
        | lst h8 => exact ⟨a, b, _, _, rfl, rfl, h5, h7, by rw [h6.length, h8.length]; exact Nat.le_trans l (by decide), k .non _ _ G2 _ (r2.mutO hi (.lst (h6.append h8))) (s1.trans s2) (.dat .non) q⟩)
/-- xs[i] = e -/
theorem JS_setIx {ix xs : Expr} {p3 : Pos} (h : J X e δ fun d δ1 => J X xs δ1 fun r δ2 => J X ix δ2 fun i δ3 => ∃ (a : Addr) (rs : List Rv) (n : Int) (m j : Nat), r = .adr a ∧ i = .int n ∧ δ3.ob[j]? = some (a, MO.lst rs) ∧ ixN rs.length n = some m ∧ E.nx ⟨δ3.sl, δ3.ob.set j (a, .lst (rs.set m d))⟩)
    (hs : swapsWithSole [.Subscript xs ix p3] e pos.line X.env = pure false := by rfl) (hw : swappedStores [.Subscript xs ix p3] e X.env = pure none := by rfl)
    (hg : ∀ {to ti : TE}, PE X xs to → PE X ix ti → PG X (.Subscript xs ix p3) (gSub to ti rSetL) := by intro _ _ ho hi; exact pg_sub ho hi set_list) : JS X (.Assign [.Subscript xs ix p3] e pos) δ E := fun F σ G H D r ok =>
  US_of (ps_asg pe_U (hg pe_U pe_U) hs hw) (h F σ G H _ r fun v d δ1 G1 H1 r1 s1 x1 q1 => q1 F σ G1 H1 _ r1 fun ov o δ2 G2 H2 r2 s2 x2 q2 => q2 F σ G2 H2 _ r2 fun u i δ3 G3 H3 r3 s3 x3 ⟨a, rs, n, m, j, e1, e2, hj, hix, q⟩ => by
    subst e1 e2
    obtain rfl := rv_adr x2
    obtain rfl := rv_int x3
    obtain ⟨_, _, u, h3, h4⟩ := r3.at hj
    cases h4 with
    | lst h4 => exact ⟨a, _, n, m, rfl, rfl, h3, by rw [h4.length]; exact hix, ok.nx σ _ G3 _ (r3.mutO hj (.lst (h4.set m (x1.mono (s2.trans s3))))) ((s1.trans s2).trans s3) q⟩)
/-! ### dicts -/
theorem J_dget (hu : X.A.units + 1 < cLine) (h : J X o δ fun r δ1 => J X i δ1 fun y δ2 => ∃ (a : Addr) (kvs : List (Key × Rv)) (k : Key) (v : Rv) (j : Nat), r = .adr a ∧ y = .dat (kD k) ∧ δ2.ob[j]? = some (a, MO.dk kvs) ∧ valR kvs k = some v ∧ Φ v δ2) (hs : NoSl i := by exact fun _ _ => rfl) : J X (.Subscript o i pos) δ Φ := fun F σ G H Q r k =>
  U_of (pe_dget hu pe_U pe_U hs) (h F σ G H _ r fun v d δ1 G1 H1 r1 s1 x1 q1 => q1 F σ G1 H1 _ r1 fun u y δ2 G2 H2 r2 s2 x2 ⟨a, kvs, kk, w, j, e1, e2, hj, hv, q⟩ => by
    subst e1 e2
    obtain rfl := rv_adr x1
    obtain rfl := rv_key x2
    obtain ⟨_, _, u, h3, h4⟩ := r2.at hj
    cases h4 with
    | dk h4 =>
      obtain ⟨w', k1, k2⟩ := (val_kv (k := kk) h4).1 w hv
      exact ⟨a, w', rfl, k1 ▸ DGet.k h3, k w' w δ2 G2 H2 r2 (s1.trans s2) k2 q⟩)
theorem J_din (hu : X.A.units + 1 < cLine) (h : J X i δ fun y δ1 => J X o δ1 fun r δ2 => ∃ (a : Addr) (kvs : List (Key × Rv)) (k : Key) (j : Nat), r = .adr a ∧ y = .dat (kD k) ∧ δ2.ob[j]? = some (a, MO.dk kvs) ∧ Φ (.bool (valR kvs k).isSome) δ2) (hm : behindInMarks .In o = false := by rfl) : J X (.Compare i [.In] [o] pos) δ Φ := fun F σ G H Q r k =>
  U_of (pe_cmp (pc_din hu pe_U pe_U) hm) (h F σ G H _ r fun v d δ1 G1 H1 r1 s1 x1 q1 => q1 F σ G1 H1 _ r1 fun u y δ2 G2 H2 r2 s2 x2 ⟨a, kvs, kk, j, e1, e2, hj, q⟩ => by
    subst e1 e2
    obtain rfl := rv_key x1
    obtain rfl := rv_adr x2
    obtain ⟨_, _, u, h3, h4⟩ := r2.at hj
    cases h4 with
    | dk h4 =>
      refine ⟨a, _, rfl, DGet.k h3, ?_⟩
      rw [some_kv h4]
      exact k _ _ δ2 G2 H2 r2 (s1.trans s2) (.dat (.bl _)) q)
theorem J_dnotin (hu : X.A.units + 1 < cLine) (h : J X i δ fun y δ1 => J X o δ1 fun r δ2 => ∃ (a : Addr) (kvs : List (Key × Rv)) (k : Key) (j : Nat), r = .adr a ∧ y = .dat (kD k) ∧ δ2.ob[j]? = some (a, MO.dk kvs) ∧ Φ (.bool (!(valR kvs k).isSome)) δ2) (hm : behindInMarks .NotIn o = false := by rfl) : J X (.Compare i [.NotIn] [o] pos) δ Φ := fun F σ G H Q r k =>
  U_of (pe_cmp (pc_dnotin hu pe_U pe_U) hm) (h F σ G H _ r fun v d δ1 G1 H1 r1 s1 x1 q1 => q1 F σ G1 H1 _ r1 fun u y δ2 G2 H2 r2 s2 x2 ⟨a, kvs, kk, j, e1, e2, hj, q⟩ => by
    subst e1 e2
    obtain rfl := rv_key x1
    obtain rfl := rv_adr x2
    obtain ⟨_, _, u, h3, h4⟩ := r2.at hj
    cases h4 with
    | dk h4 =>
      refine ⟨a, _, rfl, DGet.k h3, ?_⟩
      rw [some_kv h4]
      exact k _ _ δ2 G2 H2 r2 (s1.trans s2) (.dat (.bl _)) q)
theorem JT_din (hu : X.A.units + 1 < cLine) (h : J X i δ fun y δ1 => J X o δ1 fun r δ2 => ∃ (a : Addr) (kvs : List (Key × Rv)) (k : Key) (j : Nat), r = .adr a ∧ y = .dat (kD k) ∧ δ2.ob[j]? = some (a, MO.dk kvs) ∧ Ψ ((valR kvs k).isSome) δ2) (hm : behindInMarks .In o = false := by rfl) : JT X (.Compare i [.In] [o] pos) δ Ψ := fun F σ G H Q r k =>
  UT_of (pt_cmp (pc_din hu pe_U pe_U) hm) (h F σ G H _ r fun v d δ1 G1 H1 r1 s1 x1 q1 => q1 F σ G1 H1 _ r1 fun u y δ2 G2 H2 r2 s2 x2 ⟨a, kvs, kk, j, e1, e2, hj, q⟩ => by
    subst e1 e2
    obtain rfl := rv_key x1
    obtain rfl := rv_adr x2
    obtain ⟨_, _, u, h3, h4⟩ := r2.at hj
    cases h4 with
    | dk h4 =>
      refine ⟨a, _, rfl, DGet.k h3, _, rfl, ?_⟩
      rw [some_kv h4]
      exact k _ δ2 G2 H2 r2 (s1.trans s2) q)
theorem JT_dnotin (hu : X.A.units + 1 < cLine) (h : J X i δ fun y δ1 => J X o δ1 fun r δ2 => ∃ (a : Addr) (kvs : List (Key × Rv)) (k : Key) (j : Nat), r = .adr a ∧ y = .dat (kD k) ∧ δ2.ob[j]? = some (a, MO.dk kvs) ∧ Ψ (!(valR kvs k).isSome) δ2) (hm : behindInMarks .NotIn o = false := by rfl) : JT X (.Compare i [.NotIn] [o] pos) δ Ψ := fun F σ G H Q r k =>
  UT_of (pt_cmp (pc_dnotin hu pe_U pe_U) hm) (h F σ G H _ r fun v d δ1 G1 H1 r1 s1 x1 q1 => q1 F σ G1 H1 _ r1 fun u y δ2 G2 H2 r2 s2 x2 ⟨a, kvs, kk, j, e1, e2, hj, q⟩ => by
    subst e1 e2
    obtain rfl := rv_key x1
    obtain rfl := rv_adr x2
    obtain ⟨_, _, u, h3, h4⟩ := r2.at hj
    cases h4 with
    | dk h4 =>
      refine ⟨a, _, rfl, DGet.k h3, _, rfl, ?_⟩
      rw [some_kv h4]
      exact k _ δ2 G2 H2 r2 (s1.trans s2) q)
theorem JS_dput (hu : X.A.units + 1 < cLine) (h : J X value δ fun v δ1 => J X o δ1 fun r δ2 => J X i δ2 fun y δ3 => ∃ (a : Addr) (kvs : List (Key × Rv)) (k : Key) (j : Nat), r = .adr a ∧ y = .dat (kD k) ∧ δ3.ob[j]? = some (a, MO.dk kvs) ∧ kvs.length < 1000000 ∧ E.nx ⟨δ3.sl, δ3.ob.set j (a, .dk (putRk kvs k v))⟩)
    (hs : swapsWith value (some (.Subscript o i pos')) pos.line X.env = pure false := by rfl) : JS X (.Assign [.Subscript o i pos'] value pos) δ E := fun F σ G H D r ok =>
  US_of (ps_dput hu pe_U pe_U pe_U hs) (h F σ G H _ r fun v d δ1 G1 H1 r1 s1 x1 q1 => q1 F σ G1 H1 _ r1 fun ov og δ2 G2 H2 r2 s2 x2 q2 => q2 F σ G2 H2 _ r2 fun u y δ3 G3 H3 r3 s3 x3 ⟨a, kvs, kk, j, e1, e2, hj, hl, q⟩ => by
    subst e1 e2
    obtain rfl := rv_adr x2
    obtain rfl := rv_key x3
    obtain ⟨_, _, u, h3, h4⟩ := r3.at hj
    cases h4 with
    | dk h4 => exact ⟨a, _, rfl, DPut.k h3 (by rw [h4.length]; exact Nat.lt_of_lt_of_le hl (by decide)), ok.nx σ _ G3 _ (r3.mutO hj (.dk (putk_kv (x1.mono (s2.trans s3)) h4))) ((s1.trans s2).trans s3) q⟩)
theorem J_dpop (h : J X o δ fun r δ1 => ∃ (a : Addr) (kvs0 : List (Key × Rv)) (j0 : Nat), r = .adr a ∧ δ1.ob[j0]? = some (a, MO.dk kvs0) ∧ J X e δ1 fun y δ2 => ∃ (kvs : List (Key × Rv)) (k : Key) (v : Rv) (j : Nat), y = .dat (kD k) ∧ δ2.ob[j]? = some (a, MO.dk kvs) ∧ valR kvs k = some v ∧ Φ v ⟨δ2.sl, δ2.ob.set j (a, .dk (dropR kvs k))⟩) (m : M1 X o "pop" apos e cpos := by exact ⟨rfl, rfl, rfl, rfl⟩) : J X (.Call (.Attribute o "pop" apos) [e] [] cpos) δ Φ := fun F σ G H Q r k =>
  U_of (pe_dpop1 pe_U pe_U m) (h F σ G H _ r fun v d δ1 G1 H1 r1 s1 x1 ⟨a, kvs0, j0, e1, hj0, q1⟩ => by
    subst e1
    obtain rfl := rv_adr x1
    obtain ⟨_, _, u, h3, h4⟩ := r1.at hj0
    cases h4 with
    | dk h4 =>
      refine ⟨a, rfl, .inl ⟨_, .inl h3⟩, q1 F σ G1 H1 _ r1 fun u y δ2 G2 H2 r2 s2 x2 ⟨kvs, kk, w, j, e2, hj, hv, q⟩ => ?_⟩
      subst e2
      obtain rfl := rv_key x2
      obtain ⟨_, _, u, h5, h6⟩ := r2.at hj
      cases h6 with
      | dk h6 =>
        obtain ⟨w', k1, k2⟩ := (val_kv (k := kk) h6).1 w hv
        exact ⟨_, kk, w', h5, rfl, k1, k w' w _ G2 _ (r2.mutO hj (.dk (drop_kv h6))) (s1.trans s2) k2 q⟩)
/-- len(d), dict(d) -/
theorem RC_lenD {a : Addr} {kvs : List (Key × Rv)} (j : Nat) (hj : δ.ob[j]? = some (a, MO.dk kvs)) (q : Φ (.int (kvs.length : Nat)) δ) : RC X (fun xs H Q => ∃ a kvs, xs = [V.ref a] ∧ H a = some (.dK kvs) ∧ Q (.int kvs.length) H) [.adr a] δ Φ := fun F σ G H Q vs r hv k => by
  obtain ⟨v, rfl, h⟩ := ra1 hv
  obtain rfl := rv_adr h
  obtain ⟨_, _, u, h3, h4⟩ := r.at hj
  cases h4 with
  | dk h4 =>
    refine ⟨a, _, rfl, h3, ?_⟩
    rw [h4.length]
    exact k _ _ δ G H r (Same.refl G) (.dat (.int _)) q
theorem RC_dictD {a : Addr} {kvs : List (Key × Rv)} (j : Nat) (hj : δ.ob[j]? = some (a, MO.dk kvs)) (q : ∀ p, Φ (.adr p) ⟨δ.sl, δ.ob ++ [(p, .dk kvs)]⟩) : RC X (fun xs H Q => ∃ (a : Addr) (kvs : List (Key × V)), xs = [.ref a] ∧ Rd H a (.dK kvs) ∧ ∀ p, H p = none → Q (.ref p) (upd H p (.dK kvs))) [.adr a] δ Φ := fun F σ G H Q vs r hv k => by
  obtain ⟨v, rfl, h⟩ := ra1 hv
  obtain rfl := rv_adr h
  obtain ⟨_, _, u, h3, h4⟩ := r.at hj
  cases h4 with
  | dk h4 => exact ⟨a, _, rfl, .inl h3, fun p hp => k (.ref p) _ _ _ _ (r.newO hp (.dk h4)) (Same.refl G) .adr (q p)⟩
theorem kv_keys {K : PySem.W.Frag} {G : Hp} {α : Type} : ∀ {ws : List (α × V)} {kvs : List (α × Rv)}, KvAll K G ws kvs → ws.map (·.1) = kvs.map (·.1)
  | _, _, .nil => rfl
  | _, _, .cons h1 h2 => by rw [List.map_cons, List.map_cons, kv_keys h2]
theorem RC_sortedDI {a : Addr} {kvs : List (Key × Rv)} {ks : List Int} (j : Nat) (hj : δ.ob[j]? = some (a, MO.dk kvs)) (hk : kvs.map (·.1) = ks.map Sum.inl) (hl : ks.length < 64) (q : ∀ (ys : List Int) p, ys.Perm ks → ys.Pairwise (· ≤ ·) → Φ (.adr p) ⟨δ.sl, δ.ob ++ [(p, .lst (ys.map Rv.int))]⟩) :
    RC X (fun xs H Q => ∃ (a : Addr) (kvs : List (Key × V)) (ks : List Int), xs = [.ref a] ∧ Rd H a (.dK kvs) ∧ kvs.map (·.1) = ks.map Sum.inl ∧ ks.length < 64 ∧
    ∀ (ys : List Int) (p : Addr), ys.Perm ks → ys.Pairwise (· ≤ ·) → H p = none → Q (.ref p) (upd H p (.lst (ys.map V.int)))) [.adr a] δ Φ := fun F σ G H Q vs r hv k => by
  obtain ⟨v, rfl, h⟩ := ra1 hv
  obtain rfl := rv_adr h
  obtain ⟨_, _, u, h3, h4⟩ := r.at hj
  cases h4 with
  | dk h4 => exact ⟨a, _, ks, rfl, .inl h3, by rw [kv_keys h4]; exact hk, hl, fun ys p h1 h2 hp => k (.ref p) _ _ _ _ (r.newO hp (.lst (ints_rv ys))) (Same.refl G) .adr (q ys p h1 h2)⟩
end
end SH
end

section
/-! SH8: functions by name, common promises, small facts. -/
namespace SH
open PySem PySem.Spec PyProof.Rows L2 DL
/-- the function that the module's name x holds -/
structure Cal (P : Program) (w : World) (K : PySem.W.Frag) (mg : Str → Option Value) (base : Heap) (x : Str) (k : Nat) (ps : List Str) (sp : Spc) : Prop where
  ex : ∃ f fd, FnG P w K mg base k f fd ps sp ∧ mg x = some (.ref f) ∧ PySem.W.keepIn K (.ref f) = true ∧ Binds K fd ps []
/-- the method m of the class at C -/
structure CalM (P : Program) (w : World) (K : PySem.W.Frag) (mg : Str → Option Value) (base : Heap) (C : Addr) (m : Str) (k : Nat) (ps : List Str) (sp : Spc) : Prop where
  ex : ∃ f fd, FnG P w K mg base k f fd ps sp ∧ Meth K C m f ∧ Binds K fd ps []
/-- the class that the module's name x holds, by its __init__ -/
structure CalN (P : Program) (w : World) (K : PySem.W.Frag) (mg : Str → Option Value) (base : Heap) (x : Str) (C : Addr) (k : Nat) (ps : List Str) (sp : Spc) : Prop where
  ex : ∃ f fd, FnG P w K mg base k f fd ps sp ∧ Mk K C f ∧ mg x = some (.ref C) ∧ Binds K fd ps []
theorem hand0 {sp : Spc} {ps : List Str} {rs : List Rv} {δ : S} {Φ : Post} (hl : rs.length = ps.length) (h : sp ⟨rs.map some, []⟩ fun r ob' => ob' = [] ∧ Φ r δ) (mono : ∀ as Φ Ψ, (∀ r ob, Φ r ob → Ψ r ob) → sp as Φ → sp as Ψ) : Hand sp ps rs δ Φ :=
  ⟨[], List.nodup_nil, nofun, hl, mono _ _ _ (fun r ob' ⟨e, q⟩ => by
    subst e
    refine ⟨Nat.le_refl _, rfl, ?_⟩
    show Φ r ⟨δ.sl, δ.ob ++ []⟩
    rw [List.append_nil]
    exact q) h⟩
/-- promises of data alone -/
def sp1 (pre : D → Prop) (F : D → D) : Spc := fun as Φ => ∃ d, as = ⟨[some (.dat d)], []⟩ ∧ pre d ∧ Φ (.dat (F d)) []
def sp2 (pre : D → D → Prop) (F : D → D → D) : Spc := fun as Φ => ∃ d e, as = ⟨[some (.dat d), some (.dat e)], []⟩ ∧ pre d e ∧ Φ (.dat (F d e)) []
def sp3 (pre : D → D → D → Prop) (F : D → D → D → D) : Spc := fun as Φ => ∃ d e f, as = ⟨[some (.dat d), some (.dat e), some (.dat f)], []⟩ ∧ pre d e f ∧ Φ (.dat (F d e f)) []
section
variable {X : Cx} {δ : S} {Φ : Post} {E : DE} {pos p apos : Pos} {x m : Str} {e o : Expr} {es : List Expr} {sts : List Stmt} {k j : Nat} {ps : List Str} {sp : Spc} {C : Addr}
/-- f(e, ..), any objects handed -/
theorem J_cH (c : Cal X.prog X.w X.K X.mg X.base x k ps sp) (hr : GR j X.A) (h : JA X (e :: es) δ fun rs δ1 => Hand sp ps rs δ1 Φ) (hkj : k ≤ j := by decide) (hg : Gl X x := by rfl) (hdb : (x == ("__debug__" : Str)) = false := by decide)
    (he : starEach (e :: es) X.env = (false, eval e X.env) :: starEach es X.env := by rfl) (hpl : (backTo pos (starEach es X.env)).any (·.1) = false := by rfl) : J X (.Call (.Name x p) (e :: es) [] pos) δ Φ := by
  obtain ⟨f, fd, F, m, kp, b⟩ := c.ex
  exact J_call F (hr.mono hkj) m kp b h hg hdb he hpl
theorem J_c1 {pre : D → Prop} {G : D → D} (c : Cal X.prog X.w X.K X.mg X.base x k ps (sp1 pre G)) (hr : GR j X.A) (h : JA X (e :: es) δ fun rs δ1 => ∃ d, rs = [.dat d] ∧ ps.length = 1 ∧ pre d ∧ Φ (.dat (G d)) δ1) (hkj : k ≤ j := by decide) (hg : Gl X x := by rfl) (hdb : (x == ("__debug__" : Str)) = false := by decide)
    (he : starEach (e :: es) X.env = (false, eval e X.env) :: starEach es X.env := by rfl) (hpl : (backTo pos (starEach es X.env)).any (·.1) = false := by rfl) : J X (.Call (.Name x p) (e :: es) [] pos) δ Φ :=
  J_cH c hr (h.imp fun rs δ1 ⟨d, e1, hl, hp, q⟩ => by
    subst e1
    exact hand0 hl.symm ⟨d, rfl, hp, rfl, q⟩ fun as Φ Ψ i ⟨d, a, b, c⟩ => ⟨d, a, b, i _ _ c⟩) hkj hg hdb he hpl
theorem J_c2 {pre : D → D → Prop} {G : D → D → D} (c : Cal X.prog X.w X.K X.mg X.base x k ps (sp2 pre G)) (hr : GR j X.A) (h : JA X (e :: es) δ fun rs δ1 => ∃ d d2, rs = [.dat d, .dat d2] ∧ ps.length = 2 ∧ pre d d2 ∧ Φ (.dat (G d d2)) δ1) (hkj : k ≤ j := by decide) (hg : Gl X x := by rfl) (hdb : (x == ("__debug__" : Str)) = false := by decide)
    (he : starEach (e :: es) X.env = (false, eval e X.env) :: starEach es X.env := by rfl) (hpl : (backTo pos (starEach es X.env)).any (·.1) = false := by rfl) : J X (.Call (.Name x p) (e :: es) [] pos) δ Φ :=
  J_cH c hr (h.imp fun rs δ1 ⟨d, d2, e1, hl, hp, q⟩ => by
    subst e1
    exact hand0 hl.symm ⟨d, d2, rfl, hp, rfl, q⟩ fun as Φ Ψ i ⟨d, e, a, b, c⟩ => ⟨d, e, a, b, i _ _ c⟩) hkj hg hdb he hpl
theorem J_c3 {pre : D → D → D → Prop} {G : D → D → D → D} (c : Cal X.prog X.w X.K X.mg X.base x k ps (sp3 pre G)) (hr : GR j X.A) (h : JA X (e :: es) δ fun rs δ1 => ∃ d d2 d3, rs = [.dat d, .dat d2, .dat d3] ∧ ps.length = 3 ∧ pre d d2 d3 ∧ Φ (.dat (G d d2 d3)) δ1) (hkj : k ≤ j := by decide) (hg : Gl X x := by rfl) (hdb : (x == ("__debug__" : Str)) = false := by decide)
    (he : starEach (e :: es) X.env = (false, eval e X.env) :: starEach es X.env := by rfl) (hpl : (backTo pos (starEach es X.env)).any (·.1) = false := by rfl) : J X (.Call (.Name x p) (e :: es) [] pos) δ Φ :=
  J_cH c hr (h.imp fun rs δ1 ⟨d, d2, d3, e1, hl, hp, q⟩ => by
    subst e1
    exact hand0 hl.symm ⟨d, d2, d3, rfl, hp, rfl, q⟩ fun as Φ Ψ i ⟨d, e, f, a, b, c⟩ => ⟨d, e, f, a, b, i _ _ c⟩) hkj hg hdb he hpl
/-- o.m(e, ..) -/
theorem J_cm {pl : Sem Bool} (c : CalM X.prog X.w X.K X.mg X.base C m k ps sp) (cl : Cls X.K C) (hr : GR j X.A)
    (h : J X o δ fun r δ1 => ∃ (a dx : Addr) (i : Nat) (fs : List (Str × Rv)), r = .adr a ∧ δ1.ob[i]? = some (a, MO.ins C dx fs) ∧ fs.lookup m = none ∧ JA X (e :: es) δ1 fun rs δ2 => Hand sp ps (.adr a :: rs) δ2 Φ) (hkj : k ≤ j := by decide)
    (hst : starEach (e :: es) X.env = (false, eval e X.env) :: starEach es X.env := by rfl) (hpl : (backTo pos (starEach es X.env)).any (·.1) = false := by rfl)
    (ht : eval (.Call (.Attribute o m apos) (e :: es) [] pos) X.env = (do
      let ov ← eval o X.env
      standAt apos.atName
      let (f, first) ← holding [ov] (getMethod ov m pl)
      callWith pos f first (backTo pos (starEach (e :: es) X.env)) (backToKw pos (keywordEach [] X.env))) := by rfl) :
    J X (.Call (.Attribute o m apos) (e :: es) [] pos) δ Φ := by
  obtain ⟨f, fd, F, hm, b⟩ := c.ex
  exact J_meth cl hm F (hr.mono hkj) b h hst hpl ht
theorem J_cm0 {pl : Sem Bool} (c : CalM X.prog X.w X.K X.mg X.base C m k ps sp) (cl : Cls X.K C) (hr : GR j X.A)
    (h : J X o δ fun r δ1 => ∃ (a dx : Addr) (i : Nat) (fs : List (Str × Rv)), r = .adr a ∧ δ1.ob[i]? = some (a, MO.ins C dx fs) ∧ fs.lookup m = none ∧ Hand sp ps [.adr a] δ1 Φ) (hkj : k ≤ j := by decide)
    (ht : eval (.Call (.Attribute o m apos) [] [] pos) X.env = (do
      let ov ← eval o X.env
      standAt apos.atName
      let (f, first) ← holding [ov] (getMethod ov m pl)
      callWith pos f first (backTo pos (starEach [] X.env)) (backToKw pos (keywordEach [] X.env))) := by rfl) :
    J X (.Call (.Attribute o m apos) [] [] pos) δ Φ := by
  obtain ⟨f, fd, F, hm, b⟩ := c.ex
  exact J_meth0 cl hm F (hr.mono hkj) b h ht
/-- C(e, ..) -/
theorem J_cn (c : CalN X.prog X.w X.K X.mg X.base x C k ps sp) (hr : GR j X.A)
    (h : JA X (e :: es) δ fun rs δ1 => ∀ a dx, Hand sp ps (.adr a :: rs) ⟨δ1.sl, δ1.ob ++ [(a, .ins C dx [])]⟩ fun r δ2 => r = .none ∧ Φ (.adr a) δ2) (hkj : k + 1 ≤ j := by decide) (hg : Gl X x := by rfl) (hdb : (x == ("__debug__" : Str)) = false := by decide)
    (he : starEach (e :: es) X.env = (false, eval e X.env) :: starEach es X.env := by rfl) (hpl : (backTo pos (starEach es X.env)).any (·.1) = false := by rfl) : J X (.Call (.Name x p) (e :: es) [] pos) δ Φ := by
  obtain ⟨f, fd, F, M, hm, b⟩ := c.ex
  exact J_make M F (hr.mono hkj) hm b h hg hdb he hpl
/-- a new list becomes data -/
theorem J_frz (h : J X e δ fun r δ1 => ∃ (p : Addr) (i : Nat) (ds : List D), r = .adr p ∧ δ1.ob[i]? = some (p, MO.lst (ds.map .dat)) ∧ Φ (.list ds) ⟨δ1.sl, δ1.ob.eraseIdx i⟩) : J X e δ Φ := fun F σ G H Q r k =>
  h F σ G H Q r fun v d δ1 G1 H1 r1 s1 x1 ⟨p, i, ds, e1, hi, q⟩ => by
    subst e1
    obtain rfl := rv_adr x1
    obtain ⟨g0, _, u, h3, h4⟩ := r1.at hi
    cases h4 with
    | lst h4 => exact k _ _ _ _ H1 (r1.on (same_new g0) (r1.hr.freeze hi h3)) (s1.trans (same_new g0)) (.dat (.lst (SqL.of upd_same) (DtAll.mono (same_new g0) _ _ h4.toDt))) q
/-- the list in a slot becomes data -/
theorem JSs_frz (n i : Nat) (p : Addr) {ds : List D} (hn : δ.sl[n]? = some (some (.adr p))) (hi : δ.ob[i]? = some (p, MO.lst (ds.map .dat))) (h : JSs X sts ⟨δ.sl.set n (some (.list ds)), δ.ob.eraseIdx i⟩ E) : JSs X sts δ E := fun F σ G H D r ok => by
  obtain ⟨g0, _, u, h3, h4⟩ := r.at hi
  cases h4 with
  | lst h4 =>
    obtain ⟨v, k1, k2⟩ := r.slo n _ hn
    obtain rfl := rv_adr k2
    have r2 := r.on (same_new g0) (r.hr.freeze hi h3)
    have r3 := r2.set (i := n) (v := .ref p) (q := .list ds) (.dat (.lst (SqL.of upd_same) (DtAll.mono (same_new g0) _ _ h4.toDt)))
    have e : σ.set n (some (.ref p)) = σ := by
      apply set_same
      exact k1
    rw [e] at r3
    exact h F σ _ H D r3 (ok.mono (same_new g0))
theorem isi1 {T : Str} (t : String) {p1 p2 : Pos} (hm : X.mg "isinstance" = none) (hT : X.mg T = none) (h : J X e δ fun q δ1 => ∃ d k, q = .dat d ∧ kitB (tyName d) t = some k ∧ Φ (.bool k) δ1) (hv : bootBuiltins T = some (.type t) := by decide +kernel) (hg : Gl X "isinstance" := by rfl) (hgT : Gl X T := by rfl)
    (hn : T ≠ "__name__" := by decide) (hd : (T == ("__debug__" : Str)) = false := by decide) (hs1 : starEach (e :: [.Name T p2]) X.env = (false, eval e X.env) :: starEach [.Name T p2] X.env := by rfl) (hs2 : starEach [.Name T p2] X.env = (false, eval (.Name T p2) X.env) :: starEach [] X.env := by rfl)
    (hpl : (backTo pos (starEach [.Name T p2] X.env)).any (·.1) = false := by rfl) : J X (.Call (.Name "isinstance" p1) [e, .Name T p2] [] pos) δ Φ := J_isi h hm hT hv hg hgT hn hd hs1 hs2 hpl
theorem isi2 {T1 T2 : Str} (t1 t2 : String) {p1 p2 p3 p4 : Pos} {x1} (hm : X.mg "isinstance" = none) (hT1 : X.mg T1 = none) (hT2 : X.mg T2 = none) (h : J X e δ fun q δ1 => ∃ d k1 k2, q = .dat d ∧ kitB (tyName d) t1 = some k1 ∧ kitB (tyName d) t2 = some k2 ∧ Φ (.bool (k1 || k2)) δ1)
    (hv1 : bootBuiltins T1 = some (.type t1) := by decide +kernel) (hv2 : bootBuiltins T2 = some (.type t2) := by decide +kernel) (hg : Gl X "isinstance" := by rfl) (hgT1 : Gl X T1 := by rfl) (hgT2 : Gl X T2 := by rfl)
    (hn1 : T1 ≠ "__name__" := by decide) (hd1 : (T1 == ("__debug__" : Str)) = false := by decide) (hn2 : T2 ≠ "__name__" := by decide) (hd2 : (T2 == ("__debug__" : Str)) = false := by decide)
    (hs1 : starEach (e :: [.Tuple [.Name T1 p2, .Name T2 p3] x1 p4]) X.env = (false, eval e X.env) :: starEach [.Tuple [.Name T1 p2, .Name T2 p3] x1 p4] X.env := by rfl)
    (hpl : (backTo pos (starEach [.Tuple [.Name T1 p2, .Name T2 p3] x1 p4] X.env)).any (·.1) = false := by rfl) : J X (.Call (.Name "isinstance" p1) [e, .Tuple [.Name T1 p2, .Name T2 p3] x1 p4] [] pos) δ Φ := J_isi2 h hm hT1 hT2 hv1 hv2 hg hgT1 hgT2 hn1 hd1 hn2 hd2 hs1 hpl
end
/-- where a branch ends: the mirror's value there -/
theorem fin_of {a b : D} {ob : Obs} {Φ : Rv → Obs → Prop} (q : Φ (.dat a) ob) (e : a = b) : Φ (.dat b) ob := by
  rw [← e]
  exact q
def isList : D → Bool
  | .list _ => true
  | _ => false
def isTup : D → Bool
  | .tuple _ => true
  | _ => false
def isStr : D → Bool
  | .str _ => true
  | _ => false
theorem kb_list (d : D) : kitB (tyName d) "list" = some (isList d) := by
  cases d <;> first | exact (by decide +kernel : kitB "NoneType" "list" = some false) | exact (by decide +kernel : kitB "bool" "list" = some false) | exact (by decide +kernel : kitB "int" "list" = some false) | exact (by decide +kernel : kitB "str" "list" = some false) | exact (by decide +kernel : kitB "list" "list" = some true) | exact (by decide +kernel : kitB "tuple" "list" = some false) | exact (by decide +kernel : kitB "dict" "list" = some false)
theorem kb_tup (d : D) : kitB (tyName d) "tuple" = some (isTup d) := by
  cases d <;> first | exact (by decide +kernel : kitB "NoneType" "tuple" = some false) | exact (by decide +kernel : kitB "bool" "tuple" = some false) | exact (by decide +kernel : kitB "int" "tuple" = some false) | exact (by decide +kernel : kitB "str" "tuple" = some false) | exact (by decide +kernel : kitB "list" "tuple" = some false) | exact (by decide +kernel : kitB "tuple" "tuple" = some true) | exact (by decide +kernel : kitB "dict" "tuple" = some false)
theorem kb_str (d : D) : kitB (tyName d) "str" = some (isStr d) := by
  cases d <;> first | exact (by decide +kernel : kitB "NoneType" "str" = some false) | exact (by decide +kernel : kitB "bool" "str" = some false) | exact (by decide +kernel : kitB "int" "str" = some false) | exact (by decide +kernel : kitB "str" "str" = some true) | exact (by decide +kernel : kitB "list" "str" = some false) | exact (by decide +kernel : kitB "tuple" "str" = some false) | exact (by decide +kernel : kitB "dict" "str" = some false)
def seqB (d : D) : Bool := isList d || isTup d
def lenD : D → Int
  | .list xs => xs.length
  | .tuple xs => xs.length
  | _ => 0
def items (d : D) : List D := (seqOf d).getD []
theorem seq_some {d : D} (h : seqB d = true) : ∃ xs, seqOf d = some xs ∧ items d = xs ∧ lenD d = (xs.length : Nat) := by
  cases d <;> first | exact ⟨_, rfl, rfl, rfl⟩ | cases h
theorem seq_none {d : D} (h : seqB d = false) : seqOf d = none ∧ items d = [] := by
  cases d <;> first | exact ⟨rfl, rfl⟩ | cases h
/-- c in, not in a text, c one of a text's signs -/
def inS (z : Str) : D → Bool
  | .str t => match t.cps.toList with
    | [c] => decide (c ∈ z.cps.toList)
    | _ => false
  | _ => false
theorem RJ_inSign {X : Cx} {δ : S} {Φ : Post} {d : D} {t z : Str} (hd : d ∈ signsD t) (q : Φ (.bool (inS z d)) δ) : RJ X (fun x y H Q => ∃ (c : Nat) (z : Str), x = .str ⟨#[c]⟩ ∧ y = .str z ∧ Q (.bl (decide (c ∈ z.cps.toList))) H) (.dat d) (.str z) δ Φ := fun F σ G H Q v u r x y k => by
  obtain ⟨c, hc, rfl⟩ := List.mem_map.mp hd
  obtain rfl := rv_str x
  obtain rfl := rv_str y
  exact ⟨c, z, rfl, rfl, k _ _ δ G H r (Same.refl G) (.dat (.bl _)) q⟩
theorem eqv_str (a b : Str) : PyData.eqv (.str a) (.str b) = decide (a = b) := by
  simp only [PyData.eqv]
  by_cases h : a = b <;> simp [h]
theorem eqv_int (a b : Int) : PyData.eqv (.int a) (.int b) = decide (a = b) := by
  simp only [PyData.eqv]
  by_cases h : a = b <;> simp [h]
theorem shp_str {a : Str} (h : PyData.strOk a = true) : SeqAt.shaped (.str a) = true := by simp [SeqAt.shaped, PyData.canLay0, PyData.depth, h]
theorem RJ_eqS {X : Cx} {δ : S} {Φ : Post} {a b : Str} (q : Φ (.bool (decide (a = b))) δ) : RJ X rEq (.str a) (.str b) δ Φ := fun F σ G H Q v u r x y k => by
  obtain rfl := rv_str x
  obtain rfl := rv_str y
  have e : decide (V.str a = V.str b) = decide (a = b) := by simp
  refine ⟨rfl, ?_⟩
  rw [e]
  exact k _ _ δ G H r (Same.refl G) (.dat (.bl _)) q
theorem RJ_neS {X : Cx} {δ : S} {Φ : Post} {a b : Str} (q : Φ (.bool (!decide (a = b))) δ) : RJ X rNe (.str a) (.str b) δ Φ := fun F σ G H Q v u r x y k => by
  obtain rfl := rv_str x
  obtain rfl := rv_str y
  have e : decide (V.str a = V.str b) = decide (a = b) := by simp
  refine ⟨rfl, ?_⟩
  rw [e]
  exact k _ _ δ G H r (Same.refl G) (.dat (.bl _)) q
theorem RJ_eqI {X : Cx} {δ : S} {Φ : Post} {a b : Int} (q : Φ (.bool (decide (a = b))) δ) : RJ X rEq (.int a) (.int b) δ Φ := fun F σ G H Q v u r x y k => by
  obtain rfl := rv_int x
  obtain rfl := rv_int y
  have e : decide (V.int a = V.int b) = decide (a = b) := by simp
  refine ⟨rfl, ?_⟩
  rw [e]
  exact k _ _ δ G H r (Same.refl G) (.dat (.bl _)) q
theorem RJ_neI {X : Cx} {δ : S} {Φ : Post} {a b : Int} (q : Φ (.bool (!decide (a = b))) δ) : RJ X rNe (.int a) (.int b) δ Φ := fun F σ G H Q v u r x y k => by
  obtain rfl := rv_int x
  obtain rfl := rv_int y
  have e : decide (V.int a = V.int b) = decide (a = b) := by simp
  refine ⟨rfl, ?_⟩
  rw [e]
  exact k _ _ δ G H r (Same.refl G) (.dat (.bl _)) q
theorem shp_int (a : Int) : SeqAt.shaped (.int a) = true := by simp [SeqAt.shaped, PyData.canLay0, PyData.depth]
/-- a row like another one -/
def likeD : D → List D → D
  | .list _, ys => .list ys
  | _, ys => .tuple ys
/-! texts are short, rows are short: deep -/
mutual
def okD : D → Bool
  | .str z => decide (z.length ≤ 1000) && PyData.strOk z
  | .list xs => decide (xs.length ≤ 1000) && okAll xs
  | .tuple xs => decide (xs.length ≤ 1000) && okAll xs
  | _ => true
def okAll : List D → Bool
  | [] => true
  | x :: xs => okD x && okAll xs
end
theorem okAll_mem : ∀ {xs : List D} {x : D}, okAll xs = true → x ∈ xs → okD x = true
  | [], _, _, h => by cases h
  | y :: ys, x, h, hm => by
    have h' : okD y = true ∧ okAll ys = true := by simpa [okAll] using h
    cases hm with
    | head => exact h'.1
    | tail _ hm => exact okAll_mem h'.2 hm
theorem okAll_of : ∀ {xs : List D}, (∀ x ∈ xs, okD x = true) → okAll xs = true
  | [], _ => by simp [okAll]
  | y :: ys, h => by
    simp only [okAll, Bool.and_eq_true]
    exact ⟨h y List.mem_cons_self, okAll_of fun x hx => h x (List.mem_cons_of_mem _ hx)⟩
theorem okD_str {z : Str} (h : okD (.str z) = true) : z.length ≤ 1000 ∧ PyData.strOk z = true := by simpa [okD] using h
theorem okD_seq {d : D} {xs : List D} (h : okD d = true) (e : seqOf d = some xs) : okAll xs = true ∧ xs.length ≤ 1000 := by
  cases d with
  | list ys =>
    cases e
    have h' : xs.length ≤ 1000 ∧ okAll xs = true := by simpa [okD] using h
    exact ⟨h'.2, h'.1⟩
  | tuple ys =>
    cases e
    have h' : xs.length ≤ 1000 ∧ okAll xs = true := by simpa [okD] using h
    exact ⟨h'.2, h'.1⟩
  | _ => cases e
theorem okD_like {d : D} {xs ys : List D} (h : okD d = true) (e : seqOf d = some xs) (hs : ∀ y ∈ ys, y ∈ xs) (hl : ys.length ≤ xs.length) : okD (likeD d ys) = true := by
  obtain ⟨h1, h2⟩ := okD_seq h e
  have h3 : okAll ys = true := okAll_of fun y hy => okAll_mem h1 (hs y hy)
  cases d with
  | list zs => simp only [likeD, okD, h3, Bool.and_true, decide_eq_true_eq]; omega
  | tuple zs => simp only [likeD, okD, h3, Bool.and_true, decide_eq_true_eq]; omega
  | _ => cases e
theorem seq_like {d : D} {xs ys : List D} (e : seqOf d = some xs) : seqOf (likeD d ys) = some ys := by
  cases d <;> first | rfl | cases e
def rEqE (K : PySem.W.Frag) (neg : Bool) : R2 := fun x y H Q => ∃ a b xs, x = .ref a ∧ y = .ref b ∧ SqL K H a xs ∧ SqL K H b [] ∧ Q (.bl (if neg then !xs.isEmpty else xs.isEmpty)) H
theorem op_eqE {X : Cx} (hu : X.A.units < cLine) : OpR X (compareOp .Eq) (rEqE X.K false) := by
  intro pins s σ H x y v u Q I rx ry h
  obtain ⟨a, b, xs, rfl, rfl, h1, h2, q⟩ := h
  cases rx
  cases ry
  obtain ⟨i1, v1, p1, _⟩ := I.list h1
  obtain ⟨i2, v2, p2, _⟩ := I.list h2
  cases v2
  cases v1 with
  | nil => exact SeqAt.RcAt.lists (e := fun _ => true) p1.isList p2.isList rfl hu (fun j z => by simp at z) X.prog X.w _ _ ⟨.bl true, H, I, rfl, q⟩
  | cons => exact SeqAt.RcAt.lists_lengths p1.isList p2.isList (by simp) hu X.prog X.w _ _ ⟨.bl false, H, I, rfl, q⟩
theorem op_neE {X : Cx} (hu : X.A.units < cLine) : OpR X (compareOp .NotEq) (rEqE X.K true) := by
  intro pins s σ H x y v u Q I rx ry h
  obtain ⟨a, b, xs, rfl, rfl, h1, h2, q⟩ := h
  cases rx
  cases ry
  obtain ⟨i1, v1, p1, _⟩ := I.list h1
  obtain ⟨i2, v2, p2, _⟩ := I.list h2
  cases v2
  cases v1 with
  | nil => exact SeqAt.RcNeAt.lists (e := fun _ => true) p1.isList p2.isList rfl hu (fun j z => by simp at z) X.prog X.w _ _ ⟨.bl false, H, I, rfl, q⟩
  | cons => exact SeqAt.RcNeAt.lists_lengths p1.isList p2.isList (by simp) hu X.prog X.w _ _ ⟨.bl true, H, I, rfl, q⟩
/-- a list held against [] -/
theorem RJ_eqE {X : Cx} {δ : S} {Φ : Post} {neg : Bool} {x y : Rv} {rs : List Rv} (hx : SV δ x true rs) (hy : SV δ y true []) (q : Φ (.bool (if neg then !rs.isEmpty else rs.isEmpty)) δ) : RJ X (rEqE X.K neg) x y δ Φ := fun F σ G H Q v u r x1 y1 k => by
  obtain ⟨a, us, rfl, hd, hs⟩ := hx.get r x1
  obtain ⟨b, ws, rfl, hd2, hs2⟩ := hy.get r y1
  rcases hs with ⟨_, hs⟩ | ⟨z, _⟩
  · rcases hs2 with ⟨_, hs2⟩ | ⟨z, _⟩
    · cases hd2
      refine ⟨a, b, us, rfl, rfl, hs, hs2, ?_⟩
      have e : us.isEmpty = rs.isEmpty := by cases hd <;> rfl
      rw [e]
      exact k _ _ δ G H r (Same.refl G) (.dat (.bl _)) q
    · cases z
  · cases z
/-! ints -/
section
variable {X : Cx} {δ : S} {Φ : Post}
theorem RJ_mul {i j : Int} (hc : CMul i j) (q : Φ (.int (i * j)) δ) : RJ X (rI CMul fun i j => .int (i * j)) (.int i) (.int j) δ Φ := RJ_I hc (fun _ => .int _) q
theorem RJ_mod {i j : Int} (hc : 0 < j) (q : Φ (.int (i % j)) δ) : RJ X (rI (fun _ j => 0 < j) fun i j => .int (i % j)) (.int i) (.int j) δ Φ := RJ_I hc (fun _ => .int _) q
theorem RJ_fdiv {i j : Int} (hc : CDiv i j) (q : Φ (.int (i / j)) δ) : RJ X (rI CDiv fun i j => .int (i / j)) (.int i) (.int j) δ Φ := RJ_I hc (fun _ => .int _) q
theorem RJ_pow {i j : Int} (hc : CPow i j) (q : Φ (.int (i ^ j.toNat)) δ) : RJ X (rI CPow fun i j => .int (i ^ j.toNat)) (.int i) (.int j) δ Φ := RJ_I hc (fun _ => .int _) q
theorem lt_mod {i m : Int} (h : 0 < m) : 0 ≤ i % m ∧ i % m < m := ⟨Int.emod_nonneg i (by omega), Int.emod_lt_of_pos i h⟩
theorem dt_ints {K : PySem.W.Frag} {G : Hp} : ∀ (ns : List Int), DtAll K G (ns.map V.int) (ns.map PyData.int)
  | [] => .nil
  | n :: ns => .cons (.int n) (dt_ints ns)
end
end SH
end

section
/-! SH9: comprehensions that change nothing, dict comprehensions. -/
namespace SH
open PySem PySem.Spec PyProof.Rows L2 DL
/-- [g(x) for x in xs if p(x)] -/
def pick (p : Rv → Bool) (g : Rv → Rv) (xs : List Rv) : List Rv := (xs.filter p).map g
theorem pick_snoc_t {p : Rv → Bool} {f : Rv → Rv} {xs : List Rv} {k : Nat} {d : Rv} (h : xs[k]? = some d) (hp : p d = true) : pick p f (xs.take (k + 1)) = pick p f (xs.take k) ++ [f d] := by
  have e : xs.take (k + 1) = xs.take k ++ [d] := by
    rw [List.take_succ, h]
    rfl
  unfold pick
  rw [e, List.filter_append, List.map_append]
  simp [hp]
theorem pick_snoc_f {p : Rv → Bool} {f : Rv → Rv} {xs : List Rv} {k : Nat} {d : Rv} (h : xs[k]? = some d) (hp : p d = false) : pick p f (xs.take (k + 1)) = pick p f (xs.take k) := by
  have e : xs.take (k + 1) = xs.take k ++ [d] := by
    rw [List.take_succ, h]
    rfl
  unfold pick
  rw [e, List.filter_append, List.map_append]
  simp [hp]
theorem backL_wipe (δ : List (Option Rv)) : ∀ vs : List Nat, backL δ vs (wipeL δ vs) = δ := by
  have gen : ∀ (vs : List Nat) (δw : List (Option Rv)), δw.length = δ.length → (∀ j, j ∉ vs → δw[j]? = δ[j]?) → backL δ vs δw = δ := by
    intro vs δw hl h
    apply List.ext_getElem?
    intro j
    have at_ : ∀ (us : List Nat) (j : Nat), (backL δ us δw)[j]? = if j ∈ us then (δw[j]?.map fun _ => δ[j]?.join) else δw[j]? := by
      intro us
      induction us with
      | nil => intro j; simp [backL]
      | cons v us ih =>
        intro j
        show ((backL δ us δw).set v (δ[v]?.join))[j]? = _
        rw [List.getElem?_set, backL_length, ih j]
        by_cases hv : v = j
        · subst hv
          by_cases hz : v < δw.length
          · simp [hz]
          · simp [hz]
        · have hv' : ¬ j = v := fun e => hv e.symm
          simp [hv, hv']
    rw [at_ vs j]
    by_cases hj : j ∈ vs
    · rw [if_pos hj]
      by_cases hz : j < δ.length
      · have hz2 : j < δw.length := by omega
        simp [hz, hz2]
      · have hz2 : ¬ j < δw.length := by omega
        simp [hz, hz2]
    · rw [if_neg hj]
      exact h j hj
  intro vs
  refine gen vs _ (wipeL_length δ vs) fun j hj => ?_
  rw [wipeL_at, if_neg hj]
section
variable {X : Cx} {δ : S} {pos p2 : Pos} {elt tg iter : Expr} {ifs : List Expr} {scope : Scope} {own : List (Str × Nat)} {Φ : Post}
/-- the block changes nothing -/
theorem JL_P
    (hi : JI X tg iter δ fun C items δ1 => ∃ (p : Rv → Bool) (g : Rv → Rv), C (wipeD δ1 (own.map (·.2))) ∧
      (∀ d, d ∈ items → ∀ Y, IsBlk X scope Y → JG Y tg (own.map (·.2)) d (wipeD δ1 (own.map (·.2))) fun δ3 => ∀ Y, IsBlk X scope Y → JTs Y ifs δ3 fun b δ4 => b = p d ∧ wipeD δ4 (own.map (·.2)) = wipeD δ1 (own.map (·.2)) ∧
        (b = true → ∀ Y, IsBlk X scope Y → J Y elt δ4 fun e δ5 => e = g d ∧ wipeD δ5 (own.map (·.2)) = wipeD δ1 (own.map (·.2)))) ∧
      (∀ q, Φ (.adr q) ⟨δ1.sl, δ1.ob ++ [(q, .lst (pick p g items))]⟩)) : JL X elt tg iter ifs scope own δ Φ := by
  refine JL_lc (fun F σ G H R r k => hi F σ G H R r fun J C items δ1 G1 H1 r1 s1 io q => k J C items δ1 G1 H1 r1 s1 io ?_)
  obtain ⟨p, f, hC, ht, he⟩ := q
  refine ⟨fun k acc δ2 => acc = pick p f (items.take k) ∧ δ2 = wipeD δ1 (own.map (·.2)), ⟨rfl, rfl⟩, fun k acc δ2 ⟨_, e⟩ => by rw [e]; exact hC, ?_, ?_⟩
  · rintro k d acc δ2 hd ⟨rfl, rfl⟩ Y hY F σ G H Q v r hv q
    refine ht d (List.mem_of_getElem? hd) Y hY F σ G H Q v r hv fun σ' δ3 G' H' r' s' w' h3 => q σ' δ3 G' H' r' s' w' ?_
    intro Y2 hY2 F σ G H Q r kk
    refine h3 Y2 hY2 F σ G H Q r fun b δ4 G4 H4 r4 s4 h4 => kk b δ4 G4 H4 r4 s4 ?_
    obtain ⟨e1, e2, h5⟩ := h4
    refine ⟨fun hb Y3 hY3 F σ G H Q r kk => ?_, fun hb => ?_⟩
    · exact h5 hb Y3 hY3 F σ G H Q r fun v e δ5 G5 H5 r5 s5 x5 h6 => kk v e δ5 G5 H5 r5 s5 x5 ⟨by rw [h6.1]; exact (pick_snoc_t hd (by rw [← e1, hb])).symm, h6.2⟩
    · exact ⟨(pick_snoc_f hd (by rw [← e1, hb])).symm, e2⟩
  · rintro acc δ2 ⟨rfl, rfl⟩ _ q
    rw [List.take_length]
    show Φ (.adr q) ⟨backL δ1.sl (own.map (·.2)) (wipeL δ1.sl (own.map (·.2))), δ1.ob ++ _⟩
    rw [backL_wipe]
    exact he q
theorem J_lcP (hc : X.calm = true) (hN : X.N.Nodup) (ok : BlkOk X.N X.env.scope scope own)
    (hi : JI X tg iter δ fun C items δ1 => ∃ (p : Rv → Bool) (g : Rv → Rv), C (wipeD δ1 (own.map (·.2))) ∧
      (∀ d, d ∈ items → ∀ Y, IsBlk X scope Y → JG Y tg (own.map (·.2)) d (wipeD δ1 (own.map (·.2))) fun δ3 => ∀ Y, IsBlk X scope Y → JTs Y ifs δ3 fun b δ4 => b = p d ∧ wipeD δ4 (own.map (·.2)) = wipeD δ1 (own.map (·.2)) ∧
        (b = true → ∀ Y, IsBlk X scope Y → J Y elt δ4 fun e δ5 => e = g d ∧ wipeD δ5 (own.map (·.2)) = wipeD δ1 (own.map (·.2)))) ∧
      (∀ q, Φ (.adr q) ⟨δ1.sl, δ1.ob ++ [(q, .lst (pick p g items))]⟩))
    (hs : ∀ x, foldedSetIterable iter X.env x = pure x := by intro _; rfl) : J X (.ListComp elt [⟨tg, iter, ifs, 0⟩] scope pos) δ Φ := J_ofL hc hN ok (JL_P hi) hs
theorem pick_all {xs : List Rv} {g : Rv → Rv} : pick (fun _ => true) g xs = xs.map g := by
  unfold pick
  rw [List.filter_eq_self.mpr (fun _ _ => rfl)]
/-- {k: v for ..} -/
theorem J_dc {kx vx : Expr} (hc : X.calm = true) (hN : X.N.Nodup) (ok : BlkOk X.N X.env.scope scope own)
    (hi : JI X tg iter δ fun C items δ1 => ∃ I : Nat → List (Key × Rv) → S → Prop, I 0 [] (wipeD δ1 (own.map (·.2))) ∧ (∀ k acc δ2, I k acc δ2 → C δ2) ∧
      (∀ k d acc δ2, items[k]? = some d → I k acc δ2 → ∀ Y, IsBlk X scope Y → JG Y tg (own.map (·.2)) d δ2 fun δ3 => ∀ Y, IsBlk X scope Y → JTs Y ifs δ3 fun b δ4 =>
        (b = true → ∀ Y, IsBlk X scope Y → J Y kx δ4 fun e δ5 => ∃ kk, e = .dat (kD kk) ∧ ∀ Y, IsBlk X scope Y → J Y vx δ5 fun v δ6 => I (k + 1) (putRk acc kk v) (wipeD δ6 (own.map (·.2)))) ∧ (b = false → I (k + 1) acc (wipeD δ4 (own.map (·.2))))) ∧
      (∀ acc δ2, I items.length acc δ2 → acc.length ≤ items.length → ∀ p, Φ (.adr p) ⟨backL δ1.sl (own.map (·.2)) δ2.sl, δ2.ob ++ [(p, .dk acc)]⟩))
    (hs : ∀ x, foldedSetIterable iter X.env x = pure x := by intro _; rfl) : J X (.DictComp kx vx [⟨tg, iter, ifs, 0⟩] scope pos) δ Φ := by
  intro F σ G H Q r k
  refine U_of (pe_dc (g := fun v σ H Q => ∀ Y, IsBlk X scope Y → UG Y tg v σ H Q) (tt := fun σ H Q => ∀ Y, IsBlk X scope Y → UTs Y ifs σ H Q) (tk := fun σ H Q => ∀ Y, IsBlk X scope Y → U Y kx σ H Q) (tv := fun σ H Q => ∀ Y, IsBlk X scope Y → U Y vx σ H Q) hc hN pi_U ok
    (fun s H C cl fp => ⟨fun pins s' σ H v u Q I rv h => h _ ⟨s, _, C, cl, fp, rfl⟩ pins s' u I rv⟩) (fun s H C cl fp => ⟨fun pins s' σ H Q I h => h _ ⟨s, _, C, cl, fp, rfl⟩ pins s' I⟩)
    (fun s H C cl fp => ⟨fun pins s' σ H Q I h => h _ ⟨s, _, C, cl, fp, rfl⟩ pins s' I⟩) (fun s H C cl fp => ⟨fun pins s' σ H Q I h => h _ ⟨s, _, C, cl, fp, rfl⟩ pins s' I⟩) hs) ?_
  refine hi F σ G H _ r fun J C items δ1 G1 H1 r1 s1 io q1 => ?_
  obtain ⟨I, h0, hC, ht, he⟩ := q1
  intro Dl hD
  refine ⟨fun i m H => m = items.length - i ∧ i ≤ items.length ∧ ∃ acc accV δ2 G2, Rel X.K (upd F Dl (.dK accV)) (wipe σ (own.map (·.2))) G2 H δ2 ∧ Same G1 G2 ∧ KvAll X.K G2 accV acc ∧ accV.length ≤ i ∧ I i acc δ2,
    ⟨_, rfl, Nat.zero_le _, [], [], _, G1, (r1.wiped _).on (Same.refl _) ((r1.wiped (own.map (·.2))).hr.newF hD), Same.refl _, .nil, Nat.le_refl _, h0⟩, ?_⟩
  rintro i m H2 ⟨rfl, hle, acc, accV, δ2, G2, r2, s2, ha, hl, hI⟩
  have fD : F Dl = none := r1.hr.fnone hD
  by_cases hlt : i < items.length
  · refine .inr ⟨io.2.1 _ _ _ _ _ i r2 (hC _ _ _ hI) s2 hlt, fun H' => ∃ acc accV δ2 G2, Rel X.K (upd F Dl (.dK accV)) (wipe σ (own.map (·.2))) G2 H' δ2 ∧ Same G1 G2 ∧ KvAll X.K G2 accV acc ∧ accV.length ≤ i + 1 ∧ I (i + 1) acc δ2,
      fun H' w => ⟨items.length - (i + 1), by omega, rfl, hlt, w⟩, fun x H' y => ?_⟩
    obtain ⟨d, G3, e3, r3, s3, x3⟩ := io.2.2.2 _ _ _ _ _ i x H' r2 (hC _ _ _ hI) s2 hlt y
    intro Y hY
    refine ht i d acc δ2 e3 hI Y hY (upd F Dl (.dK accV)) _ G3 H' _ x (by obtain ⟨s, H0, C, cl, fp, rfl⟩ := hY; exact r3) (by obtain ⟨s, H0, C, cl, fp, rfl⟩ := hY; exact x3) fun σ4 δ4 G4 H4 r4 s4 w4 q4 => ?_
    have KY : Y.K = X.K := by obtain ⟨s, H0, C, cl, fp, rfl⟩ := hY; rfl
    rw [KY] at r4
    refine ⟨w4.trans (wipe_wipe _ _), fun Y2 hY2 => ?_⟩
    have KY2 : Y2.K = X.K := by obtain ⟨s, H0, C, cl, fp, rfl⟩ := hY2; rfl
    refine q4 Y2 hY2 (upd F Dl (.dK accV)) σ4 G4 H4 _ (by rw [KY2]; exact r4) fun b δ5 G5 H5 r5 s5 q5 => ?_
    rw [KY2] at r5
    have w5 : wipe σ4 (own.map (·.2)) = wipe σ (own.map (·.2)) := w4.trans (wipe_wipe _ _)
    cases b with
    | true =>
      refine iteT fun Y3 hY3 => ?_
      have KY3 : Y3.K = X.K := by obtain ⟨s, H0, C, cl, fp, rfl⟩ := hY3; rfl
      refine q5.1 rfl Y3 hY3 (upd F Dl (.dK accV)) σ4 G5 H5 _ (by rw [KY3]; exact r5) fun v e δ6 G6 H6 r6 s6 x6 q6 => ?_
      rw [KY3] at r6 x6
      obtain ⟨kk, rfl, q6⟩ := q6
      intro Y4 hY4
      have KY4 : Y4.K = X.K := by obtain ⟨s, H0, C, cl, fp, rfl⟩ := hY4; rfl
      refine q6 Y4 hY4 (upd F Dl (.dK accV)) σ4 G6 H6 _ (by rw [KY4]; exact r6) fun v2 e2 δ7 G7 H7 r7 s7 x7 q7 => ?_
      rw [KY4] at r7 x7
      have hz := io.1
      have sg := ((s3.trans s4).trans s5).trans (s6.trans s7)
      refine ⟨accV, kk, rv_key x6, (r7.hr.frm Dl _ upd_same).2, by omega, putRk acc kk e2, putK accV kk v2, _, G7, ?_, s2.trans sg, putk_kv x7 (KvAll.mono sg ha), ?_, q7⟩
      · have r8 := (r7.on (Same.refl _) (r7.hr.growF (u' := .dK (putK accV kk v2)))).wiped (own.map (·.2))
        rw [w5] at r8
        exact r8
      · unfold putK
        split
        · rw [List.length_map]; omega
        · rw [List.length_append, List.length_singleton]; omega
    | false =>
      have r7 := r5.wiped (own.map (·.2))
      rw [w5] at r7
      exact iteF ⟨acc, accV, _, G5, r7, (((s2.trans s3).trans s4).trans s5), KvAll.mono ((s3.trans s4).trans s5) ha, by omega, q5.2 rfl⟩
  · have e : i = items.length := by omega
    subst e
    have rb := Rel.back r1 s2 r2
    exact .inl ⟨io.2.2.1 _ _ _ _ _ r2 (hC _ _ _ hI) s2, k (.ref Dl) _ _ G2 H2 (rb.on (Same.refl _) (rb.hr.takeF fD (.dk ha))) (s1.trans s2) .adr (he acc δ2 hI (by rw [← ha.length]; exact hl) Dl)⟩
end
end SH
end

section
/-! SHA: enumerate of a tuple (the kit's proofs for lists, turned to tuples), dict of it. -/
namespace SH
namespace ET
open PySem PySem.W
open PySem.Sem (wp)
open AutoSeq1 (wpAny_loadPart')
theorem meets_enumerate_newL_tup (l : Addr) (items : Array Value) (n : Nat) (dct : Option Addr) (sl : Array (Option Value)) :
    Meets (Builtin.«enumerate.__new__» ⟨[.type "enumerate", .ref l], []⟩) (fun _ R s => s.heap.get? l = some { cls := .type "tuple", dict := dct, data := .seq items n, slots := sl } ∧
      R (.ok (.ret (.ref (s.heap.push { cls := .type "tuple_iterator", data := .fields #[.ref l, .int 0 0] }).objs.size)))
        { s with heap := (s.heap.push { cls := .type "tuple_iterator", data := .fields #[.ref l, .int 0 0] }).push { cls := .type "enumerate", data := .fields #[.none, .bool false, .ref s.heap.objs.size, rawInt 0, .none, .none] } }) :=
  .of_wp fun prog w A R s h => by
    obtain ⟨hp, g, d, tk, os⟩ := s; obtain ⟨hl, h⟩ := h
    have hsub := sub_enumerate
    have hL : Heap.IsTuple (Shared.heap ⟨hp, g, d, tk, os⟩) l items := ⟨_, hl, rfl, n, rfl⟩
    wp_walk using wpAny_loadPart' hl
    refine wpAny_stack_any fun st => wpAny_pure ?_
    split
    · rename_i c _ _ _ _ _
      cases (c == Value.type "enumerate")
      · wp_walk using wpAny_loadPart' hl, wpAny_pyIter_tuple hL
        exact ⟨_, rfl, h⟩
      · wp_walk using wpAny_loadPart' hl, wpAny_pyIter_tuple hL
        exact ⟨_, rfl, h⟩
    · wp_walk using wpAny_loadPart' hl, wpAny_pyIter_tuple hL
      exact ⟨_, rfl, h⟩

section
variable {prog : Program} {w : World} {A : Around} {E : Value → Shared → Prop} {s : Shared}
theorem enumerate_next_item_tup {e it l : Addr} {i : Nat} {items : Array Value} {x old : Value} {Q : Value → Shared → Prop}
    (he : IsEnum s.heap e it i old) (hit : s.heap.IsTupleIter it l i) (hl : s.heap.IsTuple l items) (hx : items[i]? = some x) (hne : e ≠ it)
    (hQ : ∀ h', IsEnumOut h' e it ((i : Int) + 1) x s.heap.objs.size → h'.IsTupleIter it l (i + 1) →
      h'.get? s.heap.objs.size = some { cls := .type "tuple", data := .seq #[.int i s.toks, x] } → h'.objs.size = s.heap.objs.size + 1 →
      (∀ b o, b ≠ e → b ≠ it → s.heap.get? b = some o → h'.get? b = some o) → Q (.ref s.heap.objs.size) { s with heap := h', toks := s.toks + 1 }) :
    wpAny (model prog w) A (Builtin.«enumerate.__next__» ⟨[.ref e], []⟩) (fun fin s' => ∃ v, fin = .done (.ret v) ∧ Q v s') E s := by
  obtain ⟨hp, g, d, tk, os⟩ := s
  show wpAny _ _ (field (.ref e) 2 >>= _) _ _ _
  refine wpAny_bind (wpAny_field he rfl (x := .ref it) rfl ?_)
  refine wpAny_bind (wpAny_nextOf_tuple_item hit hl hx fun h₁ hit₁ hs₁ => ?_)
  replace hs₁ : Heap.SameBut it hp h₁ := hs₁
  have he₁ : IsEnum h₁ e it i old := (hs₁.2 e hne).trans he
  show wpAny _ _ (field (.ref e) 3 >>= _) _ _ ⟨h₁, g, d, tk, os⟩
  refine wpAny_bind (wpAny_field he₁ rfl (x := rawInt i) rfl ?_)
  show wpAny _ _ (field (.ref e) 4 >>= _) _ _ ⟨h₁, g, d, tk, os⟩
  refine wpAny_bind (wpAny_field he₁ rfl (x := .none) rfl ?_)
  show wpAny _ _ (mkInt i >>= _) _ _ ⟨h₁, g, d, tk, os⟩
  refine wpAny_bind (wpAny_mkInt ?_)
  show wpAny _ _ (setField (.ref e) 3 (rawInt ((i : Int) + 1)) >>= _) _ _ ⟨h₁, g, d, tk + 1, os⟩
  refine wpAny_bind (wpAny_setField_rec he₁ (by simp) fun h₂ he₂ hs₂ => ?_)
  replace hs₂ : Heap.SameBut e h₁ h₂ := hs₂
  replace he₂ : IsEnum h₂ e it ((i : Int) + 1) old := he₂
  show wpAny _ _ (setField (.ref e) 4 .none >>= _) _ _ ⟨h₂, g, d, tk + 1, os⟩
  refine wpAny_bind (wpAny_setField_rec he₂ (by simp) fun h₃ he₃ hs₃ => ?_)
  replace hs₃ : Heap.SameBut e h₂ h₃ := hs₃
  replace he₃ : IsEnum h₃ e it ((i : Int) + 1) old := he₃
  show wpAny _ _ (newTuple [.int i tk, x] >>= _) _ _ ⟨h₃, g, d, tk + 1, os⟩
  refine wpAny_bind (wpAny_newTuple ?_)
  have he₄ : IsEnum (h₃.push { cls := .type "tuple", data := .seq #[.int i tk, x] }) e it ((i : Int) + 1) old := Heap.get?_push_of_some _ he₃
  generalize hh₄ : h₃.push { cls := .type "tuple", data := .seq #[.int i tk, x] } = h₄ at he₄
  have hsz : h₃.objs.size = hp.objs.size := by rw [hs₃.1, hs₂.1, hs₁.1]
  have hel : e < hp.objs.size := Heap.lt_size he
  have ht₄ : h₄.get? hp.objs.size = some { cls := .type "tuple", data := .seq #[.int i tk, x] } := by rw [← hh₄, ← hsz]; exact Heap.get?_push_size _ rfl
  have hz₄ : h₄.objs.size = hp.objs.size + 1 := by rw [← hh₄, Heap.size_push, hsz]
  have hk₄ : ∀ b o, b ≠ e → b ≠ it → hp.get? b = some o → h₄.get? b = some o := fun b o hbe hbi hb => by
    rw [← hh₄]; exact Heap.get?_push_of_some _ (hs₃.extBut b o hbe (hs₂.extBut b o hbe (hs₁.extBut b o hbi hb)))
  have hit₄ : h₄.IsTupleIter it l (i + 1) := by
    rw [← hh₄]; obtain ⟨o, ho, r⟩ := (hit₁.extBut hs₂.extBut (Ne.symm hne)).extBut hs₃.extBut (Ne.symm hne); exact ⟨o, Heap.get?_push_of_some _ ho, r⟩
  show wpAny _ _ (Builtin.SmallTypes.ownedTupleIsFree (.ref e) >>= _) _ _ ⟨h₄, g, d, tk + 1, os⟩
  rw [hsz]
  clear hh₄ he₃ hs₃ he₂ hs₂ he₁ hs₁ hit₁ hsz h₃ h₂ h₁
  refine wpAny_bind ?_
  · unfold Builtin.SmallTypes.ownedTupleIsFree
    refine wpAny_bind (wpAny_field he₄ rfl (x := .none) rfl (wpAny_pure ?_))
    simp only [if_true]
    refine wpAny_bind (wpAny_rule ?_)
    refine wpAny_bind (wpAny_field he₄ rfl (x := old) rfl ?_)
    refine wpAny_bind (wpAny_setField_rec he₄ (by simp) fun h₅ he₅ hs₅ => ?_)
    replace hs₅ : Heap.SameBut e h₄ h₅ := hs₅
    replace he₅ : IsEnum h₅ e it ((i : Int) + 1) x := he₅
    show wpAny _ _ (Builtin.SmallTypes.ownedTupleHandOut (.ref e) (.ref hp.objs.size) >>= _) _ _ ⟨h₅, g, d, tk + 1, os⟩
    refine wpAny_bind ?_
    · unfold Builtin.SmallTypes.ownedTupleHandOut
      refine wpAny_bind (wpAny_setField_rec he₅ (by simp) fun h₆ he₆ hs₆ => ?_)
      replace hs₆ : Heap.SameBut e h₅ h₆ := hs₆
      replace he₆ : IsEnumOut h₆ e it ((i : Int) + 1) x hp.objs.size := he₆
      refine wpAny_setField_rec he₆ (by simp) fun h₇ he₇ hs₇ => ?_
      replace hs₇ : Heap.SameBut e h₆ h₇ := hs₇
      replace he₇ : IsEnumOut h₇ e it ((i : Int) + 1) x hp.objs.size := he₇
      refine wpAny_bind (wpAny_letGo (wpAny_pure ⟨_, rfl, hQ h₇ he₇ ?_ ?_ ?_ ?_⟩))
      · exact ((hit₄.extBut hs₅.extBut (Ne.symm hne)).extBut hs₆.extBut (Ne.symm hne)).extBut hs₇.extBut (Ne.symm hne)
      · exact hs₇.extBut _ _ (Nat.ne_of_gt hel) (hs₆.extBut _ _ (Nat.ne_of_gt hel) (hs₅.extBut _ _ (Nat.ne_of_gt hel) ht₄))
      · rw [hs₇.1, hs₆.1, hs₅.1, hz₄]
      · exact fun b o hbe hbi hb => hs₇.extBut b o hbe (hs₆.extBut b o hbe (hs₅.extBut b o hbe (hk₄ b o hbe hbi hb)))

theorem wpAny_pyNext_enum_item_tup {e it l : Addr} {i : Nat} {items : Array Value} {x old : Value} {Q : Option Value → Shared → Prop}
    (he : IsEnum s.heap e it i old) (hit : s.heap.IsTupleIter it l i) (hl : s.heap.IsTuple l items) (hx : items[i]? = some x) (hne : e ≠ it)
    (hQ : ∀ h', IsEnumOut h' e it ((i : Int) + 1) x s.heap.objs.size → h'.IsTupleIter it l (i + 1) →
      h'.get? s.heap.objs.size = some { cls := .type "tuple", data := .seq #[.int i s.toks, x] } → h'.objs.size = s.heap.objs.size + 1 →
      (∀ b o, b ≠ e → b ≠ it → s.heap.get? b = some o → h'.get? b = some o) → Q (some (.ref s.heap.objs.size)) { s with heap := h', toks := s.toks + 1 }) :
    wpAny (model prog w) A (pyNext (.ref e)) Q E s := by
  have hT : s.TypeIs (.ref e) "enumerate" := ⟨_, he, rfl⟩
  unfold pyNext
  exact wpAny_bind (wpAny_attempt (wpAny_callSpecial?_slot (name := Str.ofString "__next__") hT F.slot_enumerate_next
    (wpAny_call_entry F.slot_enumerate_next hT F.entry_enumerate_next
      (enumerate_next_item_tup he hit hl hx hne fun h' a b c d k => wpAny_pure (hQ h' a b c d k)) (F.args_enumerate_next_1 _))))

theorem wpAny_pyNext_enum_end_tup {e it l : Addr} {i : Nat} {items : Array Value} {old : Value} {Q : Option Value → Shared → Prop} (hh : A.handled = none)
    (he : IsEnum s.heap e it i old) (hit : s.heap.IsTupleIter it l i) (hl : s.heap.IsTuple l items) (hx : items[i]? = none)
    (hQ : ∀ h', Heap.ExtBut it s.heap h' → Q none { s with heap := h' }) : wpAny (model prog w) A (pyNext (.ref e)) Q E s := by
  have hT : s.TypeIs (.ref e) "enumerate" := ⟨_, he, rfl⟩
  unfold pyNext
  refine wpAny_bind (wpAny_attempt (wpAny_callSpecial?_slot (name := Str.ofString "__next__") hT F.slot_enumerate_next
    (wpAny_call_entry F.slot_enumerate_next hT F.entry_enumerate_next ?_ (F.args_enumerate_next_1 _))))
  show wpAny _ _ (field (.ref e) 2 >>= _) _ _ _
  refine wpAny_bind (wpAny_field he rfl (x := .ref it) rfl ?_)
  refine wpAny_bind (wpAny_nextOf_tuple_end hh hit hl hx fun h' x he' hx' => ?_)
  obtain ⟨o, ho, hc⟩ := hx'
  refine wpAny_bind (wpAny_isInstance (T := "StopIteration") (b := true) ⟨o, ho, hc⟩ isSubtype_stop ?_)
  exact wpAny_pure (hQ _ he')
theorem enumerate_next_item_held_tup {e it l T : Addr} {i : Nat} {items : Array Value} {x old : Value} {f : Bool} {oT : Obj} {Q : Value → Shared → Prop}
    (he : IsEnumHeld s.heap e it i old T f) (hT : s.heap.get? T = some oT) (hTe : T ≠ e) (hTi : T ≠ it) (hit : s.heap.IsTupleIter it l i) (hl : s.heap.IsTuple l items) (hx : items[i]? = some x) (hne : e ≠ it)
    (hQ : ∀ h', IsEnumHeld h' e it ((i : Int) + 1) old T true → h'.IsTupleIter it l (i + 1) →
      h'.get? s.heap.objs.size = some { cls := .type "tuple", data := .seq #[.int i s.toks, x] } → h'.objs.size = s.heap.objs.size + 1 →
      (∀ b o, b ≠ e → b ≠ it → s.heap.get? b = some o → h'.get? b = some o) → Q (.ref s.heap.objs.size) { s with heap := h', toks := s.toks + 1 }) :
    wpAny (model prog w) A (Builtin.«enumerate.__next__» ⟨[.ref e], []⟩) (fun fin s' => ∃ v, fin = .done (.ret v) ∧ Q v s') E s := by
  obtain ⟨hp, g, d, tk, os⟩ := s
  show wpAny _ _ (field (.ref e) 2 >>= _) _ _ _
  refine wpAny_bind (wpAny_field he rfl (x := .ref it) rfl ?_)
  refine wpAny_bind (wpAny_nextOf_tuple_item hit hl hx fun h₁ hit₁ hs₁ => ?_)
  replace hs₁ : Heap.SameBut it hp h₁ := hs₁
  have he₁ : IsEnumHeld h₁ e it i old T f := (hs₁.2 e hne).trans he
  show wpAny _ _ (field (.ref e) 3 >>= _) _ _ ⟨h₁, g, d, tk, os⟩
  refine wpAny_bind (wpAny_field he₁ rfl (x := rawInt i) rfl ?_)
  show wpAny _ _ (field (.ref e) 4 >>= _) _ _ ⟨h₁, g, d, tk, os⟩
  refine wpAny_bind (wpAny_field he₁ rfl (x := .none) rfl ?_)
  show wpAny _ _ (mkInt i >>= _) _ _ ⟨h₁, g, d, tk, os⟩
  refine wpAny_bind (wpAny_mkInt ?_)
  show wpAny _ _ (setField (.ref e) 3 (rawInt ((i : Int) + 1)) >>= _) _ _ ⟨h₁, g, d, tk + 1, os⟩
  refine wpAny_bind (wpAny_setField_rec he₁ (by simp) fun h₂ he₂ hs₂ => ?_)
  replace hs₂ : Heap.SameBut e h₁ h₂ := hs₂
  replace he₂ : IsEnumHeld h₂ e it ((i : Int) + 1) old T f := he₂
  show wpAny _ _ (setField (.ref e) 4 .none >>= _) _ _ ⟨h₂, g, d, tk + 1, os⟩
  refine wpAny_bind (wpAny_setField_rec he₂ (by simp) fun h₃ he₃ hs₃ => ?_)
  replace hs₃ : Heap.SameBut e h₂ h₃ := hs₃
  replace he₃ : IsEnumHeld h₃ e it ((i : Int) + 1) old T f := he₃
  show wpAny _ _ (newTuple [.int i tk, x] >>= _) _ _ ⟨h₃, g, d, tk + 1, os⟩
  refine wpAny_bind (wpAny_newTuple ?_)
  have he₄ : IsEnumHeld (h₃.push { cls := .type "tuple", data := .seq #[.int i tk, x] }) e it ((i : Int) + 1) old T f := Heap.get?_push_of_some _ he₃
  generalize hh₄ : h₃.push { cls := .type "tuple", data := .seq #[.int i tk, x] } = h₄ at he₄
  have hsz : h₃.objs.size = hp.objs.size := by rw [hs₃.1, hs₂.1, hs₁.1]
  have hel : e < hp.objs.size := Heap.lt_size he
  have ht₄ : h₄.get? hp.objs.size = some { cls := .type "tuple", data := .seq #[.int i tk, x] } := by rw [← hh₄, ← hsz]; exact Heap.get?_push_size _ rfl
  have hz₄ : h₄.objs.size = hp.objs.size + 1 := by rw [← hh₄, Heap.size_push, hsz]
  have hk₄ : ∀ b o, b ≠ e → b ≠ it → hp.get? b = some o → h₄.get? b = some o := fun b o hbe hbi hb => by
    rw [← hh₄]; exact Heap.get?_push_of_some _ (hs₃.extBut b o hbe (hs₂.extBut b o hbe (hs₁.extBut b o hbi hb)))
  have hit₄ : h₄.IsTupleIter it l (i + 1) := by
    rw [← hh₄]; obtain ⟨o, ho, r⟩ := (hit₁.extBut hs₂.extBut (Ne.symm hne)).extBut hs₃.extBut (Ne.symm hne); exact ⟨o, Heap.get?_push_of_some _ ho, r⟩
  show wpAny _ _ (Builtin.SmallTypes.ownedTupleIsFree (.ref e) >>= _) _ _ ⟨h₄, g, d, tk + 1, os⟩
  rw [hsz]
  clear hh₄ he₃ hs₃ he₂ hs₂ he₁ hs₁ hit₁ hsz h₃ h₂ h₁
  refine wpAny_bind (wpAny_tupleHeld_enum (s := ⟨h₄, g, d, tk + 1, os⟩) he₄ (hk₄ T oT hTe hTi hT) fun h₅ he₅ hs₅ => ?_)
  replace hs₅ : Heap.SameBut e h₄ h₅ := hs₅
  simp only [Bool.false_eq_true, if_false]
  refine wpAny_pure ⟨_, rfl, hQ h₅ he₅ (hit₄.extBut hs₅.extBut (Ne.symm hne)) (hs₅.extBut _ _ (Nat.ne_of_gt hel) ht₄) ?_ fun b o hbe hbi hb => hs₅.extBut b o hbe (hk₄ b o hbe hbi hb)⟩
  show h₅.objs.size = hp.objs.size + 1
  rw [hs₅.1, hz₄]
theorem wpAny_pyNext_enum_item_held_tup {e it l T : Addr} {i : Nat} {items : Array Value} {x old : Value} {f : Bool} {oT : Obj} {Q : Option Value → Shared → Prop}
    (he : IsEnumHeld s.heap e it i old T f) (hT : s.heap.get? T = some oT) (hTe : T ≠ e) (hTi : T ≠ it) (hit : s.heap.IsTupleIter it l i) (hl : s.heap.IsTuple l items) (hx : items[i]? = some x) (hne : e ≠ it)
    (hQ : ∀ h', IsEnumHeld h' e it ((i : Int) + 1) old T true → h'.IsTupleIter it l (i + 1) →
      h'.get? s.heap.objs.size = some { cls := .type "tuple", data := .seq #[.int i s.toks, x] } → h'.objs.size = s.heap.objs.size + 1 →
      (∀ b o, b ≠ e → b ≠ it → s.heap.get? b = some o → h'.get? b = some o) → Q (some (.ref s.heap.objs.size)) { s with heap := h', toks := s.toks + 1 }) :
    wpAny (model prog w) A (pyNext (.ref e)) Q E s := by
  have hTy : s.TypeIs (.ref e) "enumerate" := ⟨_, he, rfl⟩
  unfold pyNext
  exact wpAny_bind (wpAny_attempt (wpAny_callSpecial?_slot (name := Str.ofString "__next__") hTy F.slot_enumerate_next
    (wpAny_call_entry F.slot_enumerate_next hTy F.entry_enumerate_next
      (enumerate_next_item_held_tup he hT hTe hTi hit hl hx hne fun h' a1 a2 a3 a4 a5 => wpAny_pure (hQ h' a1 a2 a3 a4 a5)) (F.args_enumerate_next_1 _))))
theorem wpAny_pyNext_enum_end_held_tup {e it l T : Addr} {i : Nat} {items : Array Value} {old : Value} {f : Bool} {Q : Option Value → Shared → Prop} (hh : A.handled = none)
    (he : IsEnumHeld s.heap e it i old T f) (hit : s.heap.IsTupleIter it l i) (hl : s.heap.IsTuple l items) (hx : items[i]? = none)
    (hQ : ∀ h', Heap.ExtBut it s.heap h' → Q none { s with heap := h' }) : wpAny (model prog w) A (pyNext (.ref e)) Q E s := by
  have hTy : s.TypeIs (.ref e) "enumerate" := ⟨_, he, rfl⟩
  unfold pyNext
  refine wpAny_bind (wpAny_attempt (wpAny_callSpecial?_slot (name := Str.ofString "__next__") hTy F.slot_enumerate_next
    (wpAny_call_entry F.slot_enumerate_next hTy F.entry_enumerate_next ?_ (F.args_enumerate_next_1 _))))
  show wpAny _ _ (field (.ref e) 2 >>= _) _ _ _
  refine wpAny_bind (wpAny_field he rfl (x := .ref it) rfl ?_)
  refine wpAny_bind (wpAny_nextOf_tuple_end hh hit hl hx fun h' x he' hx' => ?_)
  obtain ⟨o, ho, hc⟩ := hx'
  refine wpAny_bind (wpAny_isInstance (T := "StopIteration") (b := true) ⟨o, ho, hc⟩ isSubtype_stop ?_)
  exact wpAny_pure (hQ _ he')
theorem call_enumerate_list_tup {l : Addr} {items : Array Value} {Q : Value → Shared → Prop} (hL : s.heap.IsTuple l items)
    (h : ∀ h', IsEnum h' (s.heap.objs.size + 1) s.heap.objs.size 0 .none → h'.IsTupleIter s.heap.objs.size l 0 → h'.objs.size = s.heap.objs.size + 2 →
      (∀ b o, s.heap.get? b = some o → h'.get? b = some o) → Q (.ref (s.heap.objs.size + 1)) { s with heap := h' }) :
    wpAny (model prog w) A (call (.type "enumerate") [.ref l]) Q E s := by
  obtain ⟨⟨c, dct, dt, sl⟩, hl, hc, n, hd⟩ := hL
  replace hc : c = .type "tuple" := hc
  replace hd : dt = .seq items n := hd
  subst hc hd
  refine callType_new F.called_enumerate (by decide) (F.typeCall_enumerate_1 _) (F.newCall_enumerate_1 _) (fun obj => F.args_object_init_2 obj _) F.entry_enumerate_new
    (meets_enumerate_newL_tup l items n dct sl) ⟨hl, ?_⟩
  have hz : (s.heap.push { cls := .type "tuple_iterator", data := .fields #[.ref l, .int 0 0] }).objs.size = s.heap.objs.size + 1 := Heap.size_push ..
  show _ ∧ _
  rw [hz]
  have he : IsEnum ((s.heap.push { cls := .type "tuple_iterator", data := .fields #[.ref l, .int 0 0] }).push
      { cls := .type "enumerate", data := .fields #[.none, .bool false, .ref s.heap.objs.size, rawInt 0, .none, .none] }) (s.heap.objs.size + 1) s.heap.objs.size 0 .none := by
    have := Heap.get?_push_size (s.heap.push { cls := .type "tuple_iterator", data := .fields #[.ref l, .int 0 0] })
      (o := { cls := .type "enumerate", data := .fields #[.none, .bool false, .ref s.heap.objs.size, rawInt 0, .none, .none] }) rfl
    rw [hz] at this; exact this
  refine ⟨⟨_, he, rfl⟩, h _ he ⟨_, Heap.get?_push_of_some _ (Heap.get?_push_size _ rfl), rfl, rfl⟩ (by rw [Heap.size_push, hz]) fun b o x => Heap.get?_push_of_some _ (Heap.get?_push_of_some _ x)⟩

end
section
variable {prog : Program} {w : World}
theorem pairArg_enumT (e it l : Addr) (hei : e ≠ it) (hle : l ≠ e) (hli : l ≠ it) (items : Array Value) :
    PairArg prog w "enumerate" e [e, it, l] [e, it] items.size (fun i k v => (∃ t, k = .int i t) ∧ items[i]? = some v)
      (fun h => (∃ old, IsEnum h e it 0 old) ∧ h.IsTupleIter it l 0 ∧ h.IsTuple l items) where
  type := fun s ok => let ⟨⟨_, he⟩, _⟩ := ok; ⟨_, he, rfl⟩
  notDict := by decide
  keep := fun h h' ok hk => by
    obtain ⟨⟨old, he⟩, hit, hl⟩ := ok
    exact ⟨⟨old, hk _ _ he⟩, hit.at fun o x => hk _ o x, hl.at fun o x => hk _ o x⟩
  there := fun h ok b hb => by
    obtain ⟨⟨old, he⟩, ⟨o1, h1, _⟩, ⟨o2, h2, _⟩⟩ := ok
    simp only [List.mem_cons, List.not_mem_nil, or_false] at hb
    rcases hb with rfl | rfl | rfl
    all_goals first | exact ⟨_, he⟩ | exact ⟨_, h1⟩ | exact ⟨_, h2⟩
  sub := fun b hb => by simp at hb ⊢; rcases hb with rfl | rfl <;> simp
  noKeys := fun A s Q E hA ok h => let ⟨⟨_, he⟩, _⟩ := ok; getAttrOr_miss_enumerate he rfl rfl rfl enumerate_no_keys (by decide +kernel) hA h
  iter := fun A s d Q E hA ok hd hdf h => by
    obtain ⟨⟨old, he⟩, hit, hl⟩ := ok
    simp only [List.mem_cons, List.not_mem_nil, or_false, not_or] at hdf
    obtain ⟨de, dit, dl⟩ := hdf
    refine wpAny_pyIter_enum he (h e [e, it] (fun i h => h.IsTupleIter it l i ∧ h.IsTuple l items ∧ ((∃ old, IsEnum h e it i old) ∨ ∃ old T f oT, IsEnumHeld h e it i old T f ∧ h.get? T = some oT ∧ T ≠ e ∧ T ≠ it ∧ T ≠ d)) s.heap s.toks ?_
      ⟨hit, hl, .inl ⟨old, he⟩⟩ (fun _ _ e => e) fun b hb => .inl hb)
    exact {
      off := fun hm => by
        simp only [List.mem_cons, List.not_mem_nil, or_false] at hm
        rcases hm with x | x
        · exact de x
        · exact dit x
      frame := fun i h₁ h₂ st hk => by
        obtain ⟨hit, hl, he⟩ := st
        refine ⟨hit.at fun o x => hk _ o (Ne.symm dit) x, hl.at fun o x => hk _ o (Ne.symm dl) x, ?_⟩
        rcases he with ⟨old, he⟩ | ⟨old, T, f, oT, he, hT, r1, r2, r3⟩
        · exact .inl ⟨old, hk _ _ (Ne.symm de) he⟩
        · exact .inr ⟨old, T, f, oT, hk _ _ (Ne.symm de) he, hk _ _ r3 hT, r1, r2, r3⟩
      item := fun i s₁ Q₁ E₁ hi st hds hQ => by
        obtain ⟨hit, hl, he⟩ := st
        have ex := Array.getElem?_eq_getElem hi
        have ec : ((i + 1 : Nat) : Int) = (i : Int) + 1 := by omega
        have nit : s₁.heap.objs.size ≠ it := let ⟨_, x, _⟩ := hit; Nat.ne_of_gt (Heap.lt_size x)
        rcases he with ⟨old, he⟩ | ⟨old, T, f, oT, he, hT, r1, r2, r3⟩
        · refine wpAny_pyNext_enum_item_tup he hit hl ex hei fun h' ho hit' hT hsz hk => ?_
          exact hQ s₁.heap.objs.size _ _ h' (s₁.toks + 1) ⟨⟨_, rfl⟩, ex⟩ (.inl ⟨_, hT, rfl, _, rfl⟩)
            ⟨hit', hl.at fun o x => hk l o hle hli x, .inr ⟨_, s₁.heap.objs.size, false, _, (by rw [ec]; exact ho), hT, Nat.ne_of_gt (Heap.lt_size he), nit, Nat.ne_of_gt hds⟩⟩
            fun b o hb x => hk b o (fun y => hb (by simp [y])) (fun y => hb (by simp [y])) x
        · refine wpAny_pyNext_enum_item_held_tup he hT r1 r2 hit hl ex hei fun h' ho hit' hT' hsz hk => ?_
          exact hQ s₁.heap.objs.size _ _ h' (s₁.toks + 1) ⟨⟨_, rfl⟩, ex⟩ (.inl ⟨_, hT', rfl, _, rfl⟩)
            ⟨hit', hl.at fun o x => hk l o hle hli x, .inr ⟨old, T, true, oT, (by rw [ec]; exact ho), hk _ _ r1 r2 hT, r1, r2, r3⟩⟩
            fun b o hb x => hk b o (fun y => hb (by simp [y])) (fun y => hb (by simp [y])) x
      done := fun s₁ Q₁ E₁ st hQ => by
        obtain ⟨hit, hl, he⟩ := st
        have hx : items[items.size]? = none := Array.getElem?_eq_none (Nat.le_refl _)
        rcases he with ⟨old, he⟩ | ⟨old, T, f, oT, he, hT, r1, r2, r3⟩
        · exact wpAny_pyNext_enum_end_tup hA he hit hl hx fun h' hk => hQ h' s₁.toks fun b o hb x => hk b o (fun y => hb (by simp [y])) x
        · exact wpAny_pyNext_enum_end_held_tup hA he hit hl hx fun h' hk => hQ h' s₁.toks fun b o hb x => hk b o (fun y => hb (by simp [y])) x }

end
end ET
end SH
end

section
/-! SHB: dict(enumerate(tuple)), isinstance of an own class, dict(pairs). -/
namespace SH
open PySem PySem.Spec PyProof.Rows L2 DL
def numK (n : Nat) : List V → List (Key × V)
  | [] => []
  | v :: vs => (Sum.inl (n : Int), v) :: numK (n + 1) vs
def numU (n : Nat) : List Value → List (Key × Value)
  | [] => []
  | v :: vs => (Sum.inl (n : Int), v) :: numU (n + 1) vs
def numR (n : Nat) : List Rv → List (Key × Rv)
  | [] => []
  | v :: vs => (Sum.inl (n : Int), v) :: numR (n + 1) vs
theorem num_kv {K : PySem.W.Frag} {G : Hp} : ∀ {vs : List V} {rs : List Rv} (n : Nat), RvAll K G vs rs → KvAll K G (numK n vs) (numR n rs)
  | _, _, _, .nil => .nil
  | _, _, n, .cons h t => .cons h (num_kv (n + 1) t)
theorem num_len : ∀ (n : Nat) (vs : List V), (numK n vs).length = vs.length
  | _, [] => rfl
  | n, v :: vs => by simp [numK, num_len (n + 1) vs]
theorem numU_len : ∀ (n : Nat) (vs : List Value), (numU n vs).length = vs.length
  | _, [] => rfl
  | n, v :: vs => by simp [numU, numU_len (n + 1) vs]
theorem num_rel : ∀ (n : Nat) {vs : List V} {us : List Value}, Vals vs us → KV (numK n vs) (numU n us)
  | _, _, _, .nil => .nil
  | n, _, _, .cons h t => .cons ⟨rfl, h⟩ (num_rel (n + 1) t)
theorem numU_at : ∀ (us : List Value) (n i : Nat) (v : Value), us[i]? = some v → (numU n us)[i]? = some (Sum.inl ((n + i : Nat) : Int), v)
  | [], _, _, _, h => by simp at h
  | u :: us, n, 0, v, h => by simp at h; subst h; simp [numU]
  | u :: us, n, i + 1, v, h => by
    have := numU_at us (n + 1) i v (by simpa using h)
    have e : n + (i + 1) = n + 1 + i := by omega
    rw [e]
    simpa [numU] using this
theorem num_keys : ∀ (n : Nat) (vs : List V) (p : Key × V), p ∈ numK n vs → ∃ i : Int, p.1 = Sum.inl i ∧ (n : Int) ≤ i
  | _, [], _, h => by simp [numK] at h
  | n, v :: vs, p, h => by
    rcases List.mem_cons.mp h with h | h
    · exact ⟨n, by rw [h], Int.le_refl _⟩
    · obtain ⟨i, h1, h2⟩ := num_keys (n + 1) vs p h
      exact ⟨i, h1, by omega⟩
theorem merge_num : ∀ (vs : List V) (n : Nat) (acc : List (Key × V)), (∀ p ∈ acc, ∃ i : Int, p.1 = Sum.inl i ∧ i < (n : Int)) → mergeK acc (numK n vs) = acc ++ numK n vs
  | [], _, acc, _ => by simp [mergeK, numK]
  | v :: vs, n, acc, h => by
    have h0 : (acc.any fun kv => decide (kv.1 = (Sum.inl (n : Int) : Key))) = false := by
      rw [List.any_eq_false]
      intro p hp
      obtain ⟨i, h1, h2⟩ := h p hp
      rw [h1]
      simp only [decide_eq_true_eq]
      intro e
      have : i = (n : Int) := Sum.inl.inj e
      omega
    have e : putK acc (Sum.inl (n : Int)) v = acc ++ [(Sum.inl (n : Int), v)] := by
      unfold putK
      rw [if_neg (by rw [h0]; exact Bool.false_ne_true)]
    show mergeK (putK acc (Sum.inl (n : Int)) v) (numK (n + 1) vs) = _
    rw [e, merge_num vs (n + 1) _ (fun p hp => by
      rcases List.mem_append.mp hp with hp | hp
      · obtain ⟨i, h1, h2⟩ := h p hp
        exact ⟨i, h1, by omega⟩
      · rw [List.mem_singleton] at hp
        rw [hp]
        exact ⟨n, rfl, by omega⟩)]
    simp [numK]
section
variable {X : Cx} {δ : S} {Φ : Post} {pos p p2 pos2 : Pos} {e : Expr} {te : TE}
theorem pe_dictEnum (hc : X.calm = true) (hm : X.mg "dict" = none) (hm2 : X.mg "enumerate" = none) (he : PE X e te) (hg : Gl X "dict") (hg2 : Gl X "enumerate") (hs : starEach [e] X.env = (false, eval e X.env) :: starEach [] X.env := by rfl) :
    PE X (.Call (.Name "dict" p) [.Call (.Name "enumerate" p2) [e] [] pos2] [] pos) (fun σ H Q => te σ H fun x H1 => ∃ a vs, x = .ref a ∧ SqT X.K H1 a vs ∧ ∀ p, H1 p = none → Q (.ref p) (upd H1 p (.dK (numK 0 vs)))) := by
  refine ⟨fun pins s σ H Q I h => ?_⟩
  refine wpAny_Call_Name_kw (ld_blt I hg hm (by decide +kernel : bootBuiltins "dict" = some (.type "dict")) ?_)
  refine PyProof.Rows.callWith_type1 (T := "dict") ?_ rfl rfl
  show wpAny _ _ (spliced ((false, eval (.Call (.Name "enumerate" p2) [e] [] pos2) X.env) :: backTo pos (starEach [] X.env))) _ _ s
  refine Calls.spliced_cons ?_
  refine wpAny_Call_Name_kw (ld_blt I hg2 hm2 (by decide +kernel : bootBuiltins "enumerate" = some (.type "enumerate")) ?_)
  refine PyProof.Rows.callWith_type1 (T := "enumerate") ?_ hs rfl
  rw [hs]
  show wpAny _ _ (spliced ((false, eval e X.env) :: backTo pos2 (starEach [] X.env))) _ _ s
  refine Calls.spliced_cons (thn (he.run pins s σ H _ I h) fun u s1 ⟨x, H1, I1, r1, a, vs, e1, hq, q⟩ => ?_)
  subst e1
  cases r1
  refine Calls.spliced_nil ?_
  obtain ⟨us, rv, ht, hz⟩ := I1.tuple hq
  refine ET.call_enumerate_list_tup (items := us.toArray) ht fun h' he' hit hsz hk => ?_
  refine Calls.spliced_nil ?_
  have hlt : a < s1.heap.objs.size := by
    obtain ⟨o, ho, _⟩ := ht
    exact Heap.lt_size ho
  have ht' : h'.IsTuple a us.toArray := by
    obtain ⟨o, ho, hr⟩ := ht
    exact ⟨o, hk _ _ ho, hr⟩
  have pa := ET.pairArg_enumT (prog := X.prog) (w := X.w) (s1.heap.objs.size + 1) s1.heap.objs.size a (Nat.succ_ne_self _) (Nat.ne_of_lt (Nat.lt_succ_of_lt hlt)) (Nat.ne_of_lt hlt) us.toArray
  have I2 : Inv X pins σ H1 { s1 with heap := h' } := I1.kept (t' := s1.toks) hk
  refine call_dict_pairs (knd := mixKind X.prog X.w) (kvs := numU 0 us) (s := { s1 with heap := h' }) pa (I.ok.hd hc) ⟨⟨_, he'⟩, hit, ht'⟩ ⟨by rw [numU_len]; simp, fun i key v ⟨⟨t, e1⟩, e2⟩ => ?_⟩ (by simp; rw [← rv.length]; exact hz) fun h2 tk hd hk2 => ?_
  · subst e1
    refine ⟨Sum.inl (i : Int), ?_, keyIs_int _ t⟩
    have := numU_at us 0 i v (by simpa using e2)
    rw [Nat.zero_add] at this
    exact this
  · have hsz' : h'.objs.size = s1.heap.objs.size + 2 := hsz
    have hn : H1 h'.objs.size = none := I2.hok.fresh (Nat.le_refl _)
    have hm' : (h'.objs.size == sysModules) = false := beq_eq_false_iff_ne.mpr (Nat.ne_of_gt I2.big)
    have emk : mergeK [] (numK 0 vs) = numK 0 vs := by
      rw [merge_num vs 0 [] (fun p hp => by cases hp)]
      rfl
    have keep : ∀ b u, s1.heap.get? b = some u → h2.get? b = some u := fun b u e => by
      have hb := Heap.lt_size e
      exact hk2 b u (by
        rw [List.mem_cons, List.mem_singleton, not_or]
        exact ⟨Nat.ne_of_lt (Nat.lt_succ_of_lt hb), Nat.ne_of_lt hb⟩) (hk _ _ e)
    refine ⟨.ref h'.objs.size, upd H1 h'.objs.size (.dK (numK 0 vs)), I1.laid (t' := tk) keep (by omega) (show ObjOk X.prog X.w _ _ _ (.dK (numK 0 vs)) from ⟨by rw [num_len]; exact hz, hm', merged [] (numU 0 us), by rw [← emk]; exact KV.merge (num_rel 0 rv) .nil, hd⟩), rfl, q _ hn⟩
/-- dict(enumerate(t)) of a tuple -/
theorem J_dictEnum (hc : X.calm = true) (hm : X.mg "dict" = none) (hm2 : X.mg "enumerate" = none) (h : J X e δ fun r δ1 => ∃ rs, SV δ1 r false rs ∧ ∀ a, Φ (.adr a) ⟨δ1.sl, δ1.ob ++ [(a, .dk (numR 0 rs))]⟩)
    (hg : Gl X "dict" := by rfl) (hg2 : Gl X "enumerate" := by rfl) (hs : starEach [e] X.env = (false, eval e X.env) :: starEach [] X.env := by rfl) : J X (.Call (.Name "dict" p) [.Call (.Name "enumerate" p2) [e] [] pos2] [] pos) δ Φ := fun F σ G H Q r k =>
  U_of (pe_dictEnum hc hm hm2 pe_U hg hg2 hs) (h F σ G H _ r fun v d δ1 G1 H1 r1 s1 x1 ⟨rs, sv, q⟩ => by
    obtain ⟨a, vs, rfl, hv, hq⟩ := sv.get r1 x1
    rcases hq with ⟨z, _⟩ | ⟨_, hq⟩
    · cases z
    · exact ⟨a, vs, rfl, hq, fun p hp => k _ _ _ _ _ (r1.newO hp (.dk (num_kv 0 hv))) (s1.trans (Same.refl _)) .adr (q p)⟩)
end
end SH
end

section
/-! SHC: tuple[::-1], list(range), tuple(range), isinstance of an own class, dict(pairs). -/
namespace SH
open PySem PySem.Spec PyProof.Rows L2 DL
theorem dt_app {K : PySem.W.Frag} {G : Hp} : ∀ {vs us : List V} {ds es : List D}, DtAll K G vs ds → DtAll K G us es → DtAll K G (vs ++ us) (ds ++ es)
  | _, _, _, _, .nil, h => h
  | _, _, _, _, .cons h t, k => .cons h (dt_app t k)
theorem dt_rev {K : PySem.W.Frag} {G : Hp} : ∀ {vs : List V} {ds : List D}, DtAll K G vs ds → DtAll K G vs.reverse ds.reverse
  | _, _, .nil => .nil
  | _, _, .cons h t => by
    rw [List.reverse_cons, List.reverse_cons]
    exact dt_app (dt_rev t) (.cons h .nil)
section
variable {prog : Program} {w : World} {A : Around} {E : Value → Shared → Prop} {s : Shared}
theorem rev_pick (xs : List Value) : ((List.range xs.length).filterMap fun (m : Nat) => xs.toArray[(((xs.length : Nat) : Int) - 1 + (m : Int) * (-1)).toNat]?).toArray = xs.reverse.toArray := by
  congr 1
  apply List.ext_getElem?
  intro i
  have e : (fun (m : Nat) => xs.toArray[(((xs.length : Nat) : Int) - 1 + (m : Int) * (-1)).toNat]?) = fun (m : Nat) => xs[(((xs.length : Nat) : Int) - 1 + (m : Int) * (-1)).toNat]? := by
    funext m
    simp
  rw [e]
  have e2 : (List.range xs.length).filterMap (fun (m : Nat) => xs[(((xs.length : Nat) : Int) - 1 + (m : Int) * (-1)).toNat]?) = (List.range xs.length).map (fun m => xs.getD (xs.length - 1 - m) .none) := by
    rw [← List.filterMap_eq_map]
    have gen : ∀ (f g : Nat → Option Value) (l : List Nat), (∀ m ∈ l, f m = g m) → l.filterMap f = l.filterMap g := by
      intro f g l
      induction l with
      | nil => intro _; rfl
      | cons y l ih =>
        intro h
        rw [List.filterMap_cons, List.filterMap_cons, h y List.mem_cons_self, ih fun m hm => h m (List.mem_cons_of_mem _ hm)]
    apply gen
    intro m hm
    rw [List.mem_range] at hm
    have : (((xs.length : Nat) : Int) - 1 + (m : Int) * (-1)).toNat = xs.length - 1 - m := by omega
    rw [this]
    have h2 : xs.length - 1 - m < xs.length := by omega
    simp [List.getD, h2]
  rw [e2]
  by_cases hi : i < xs.length
  · rw [List.getElem?_map, List.getElem?_range hi, List.getElem?_reverse hi]
    have h2 : xs.length - 1 - i < xs.length := by omega
    simp [List.getD, h2]
  · rw [List.getElem?_eq_none (by simp; omega), List.getElem?_eq_none (by simp; omega)]
theorem sliceApplied_rev {sl : Addr} {vl vu vs : Value} {n : Nat} {Q : Int × Int × Nat → Shared → Prop} (hs : s.heap.IsSliceOf sl vl vu vs) (pl : IsPart vl none) (pu : IsPart vu none) (ps : IsPart vs (some (-1)))
    (h : Q ((n : Int) - 1, -1, n) s) : wpAny (model prog w) A (Builtin.Slice.sliceApplied (.ref sl) (pure (n : Int))) Q E s := by
  obtain ⟨os, hos, hcs, hds⟩ := id hs
  unfold Builtin.Slice.sliceApplied Builtin.Slice.sliceFields
  refine wpAny_bind (wpAny_bind (wpAny_field hos hds (x := vl) rfl (wpAny_bind (wpAny_field hos hds (x := vu) rfl (wpAny_bind (wpAny_field hos hds (x := vs) rfl (wpAny_pure ?_)))))))
  refine wpAny_bind (HT.slicePart_ ps ?_)
  show wpAny _ _ (if ((-1 : Int) == 0) = true then _ else _) _ _ s
  rw [if_neg (by decide)]
  refine wpAny_bind (HT.slicePart_ pl (wpAny_bind (HT.slicePart_ pu (wpAny_bind (wpAny_pure ?_)))))
  show wpAny _ _ (match Builtin.Slice.sliceAdjust none none (-1) (n : Int) with | (lo, hi) => pure (lo, (-1 : Int), Builtin.Slice.slicePlaces lo hi (-1))) _ _ s
  have e : Builtin.Slice.sliceAdjust none none (-1) (n : Int) = ((n : Int) - 1, -1) := by simp [Builtin.Slice.sliceAdjust]
  rw [e]
  show wpAny _ _ (pure ((n : Int) - 1, (-1 : Int), Builtin.Slice.slicePlaces ((n : Int) - 1) (-1) (-1))) _ _ s
  have e2 : Builtin.Slice.slicePlaces ((n : Int) - 1) (-1) (-1) = n := by
    unfold Builtin.Slice.slicePlaces
    rw [if_neg (by decide)]
    split
    · have : -(-1 : Int) = 1 := by decide
      rw [this, Int.ediv_one]
      omega
    · omega
  rw [e2]
  exact wpAny_pure h
theorem getItem_tuple_rev {t sl : Addr} {items : List Value} {vl vu vs : Value} {Q : Value → Shared → Prop} (ht : IsTup s.heap t items.toArray) (hs : s.heap.IsSliceOf sl vl vu vs) (pl : IsPart vl none) (pu : IsPart vu none) (ps : IsPart vs (some (-1)))
    (h : Q (.ref s.heap.objs.size) { s with heap := s.heap.push { cls := .type "tuple", data := .seq items.reverse.toArray } })
    (hsz : items.length ≤ sizeLine) : wpAny (model prog w) A (getItem (.ref t) (.ref sl)) Q E s := by
  have htake : sizeOk (.seq items.reverse.toArray) := by
    show items.reverse.toArray.size ≤ sizeLine
    rw [List.size_toArray, List.length_reverse]
    exact hsz
  obtain ⟨os, hos, hcs, hds⟩ := id hs
  have hTs : s.TypeIs (.ref sl) "slice" := ⟨os, hos, hcs⟩
  unfold getItem
  try with_reducible refine wpAny_holding ?_
  first | refine wpAny_bind (wpAny_pure ?_) | skip
  refine wpAny_bind (wpAny_sequenceKey ht.typeIs (by decide) ?_)
  refine wpAny_bind (wpAny_callSpecial?_slot (name := Str.ofString "__getitem__") ht.typeIs PyProof.Rows.slot_tuple_getitem
    (wpAny_call_entry PyProof.Rows.slot_tuple_getitem ht.typeIs entry_tuple_getitem ?_ (args_tuple_getitem _ _)))
  show wpAny _ _ (Builtin.Tuple.tupleItemsOf (.ref t) >>= _) _ _ s
  refine wpAny_bind (tupleItemsOf_ ht ?_)
  refine wpAny_bind (wpAny_typeOf hTs ?_)
  rw [if_pos (by decide)]
  have esz : items.toArray.size = items.length := List.size_toArray ..
  rw [esz]
  refine wpAny_bind (sliceApplied_rev (n := items.length) hs pl pu ps ?_)
  have hno : ¬ (((((items.length : Nat) : Int) - 1) == 0 && (-1 : Int) == 1 && items.length == items.length) = true) := by simp
  show wpAny _ _ (if ((((items.length : Nat) : Int) - 1) == 0 && (-1 : Int) == 1 && items.length == items.length) = true then _ else _) _ _ s
  rw [if_neg hno, rev_pick]
  first
    | exact wpAny_bind (m := Builtin.Tuple.tupleExact _) (wpAny_newObj_type (wpAny_pure ⟨_, rfl, wpAny_pure h⟩) htake)
    | exact wpAny_bind (m := Builtin.Tuple.tupleExact _) (wpAny_newObj_type (wpAny_bind (wpAny_pure (wpAny_pure ⟨_, rfl, wpAny_pure h⟩))) htake)
    | exact wpAny_bind (wpAny_bind (m := Builtin.Tuple.tupleExact _) (wpAny_newObj_type (wpAny_pure (wpAny_pure ⟨_, rfl, wpAny_pure h⟩)) htake))
    | exact wpAny_bind (wpAny_bind (m := Builtin.Tuple.tupleExact _) (wpAny_newObj_type (wpAny_pure ⟨_, rfl, wpAny_pure h⟩) htake))
end
section
variable {X : Cx} {δ : S} {Φ : Post} {pos p p2 p3 p1 pos2 : Pos} {e a b : Expr} {te ta tb : TE}
theorem pe_revT {k : Nat} (he : PE X e te) : PE X (.Subscript e (.Slice none none (some (.UnaryOp .USub (.Constant (.int 1) k p1) p2)) p3) pos) (fun σ H Q => te σ H fun x H1 => ∃ a xs, x = .ref a ∧ SqT X.K H1 a xs ∧ ∀ p, H1 p = none → Q (.ref p) (upd H1 p (.tup xs.reverse))) := by
  refine ⟨fun pins s σ H Q I h => ?_⟩
  refine Subscript_ (thn (he.run pins s σ H _ I h) fun v s1 ⟨x, H1, I1, r1, q1⟩ => ?_)
  obtain ⟨a, xs, ex, hx, q⟩ := q1
  subst ex
  cases r1
  have hst : PO X (some (.UnaryOp .USub (.Constant (.int 1) k p1) p2)) (tPart (tUn (rU fun i => .int (-i)) (tC (.int 1)))) := po_some (pe_un un_neg pe_int)
  refine wpAny_Slice (thn (po_none.run pins s1 σ H1 (fun o H2 => o = none ∧ H2 = H1) I1 ⟨rfl, rfl⟩) fun vl s2 ⟨l, H2, I2, pl, el, e2⟩ => ?_)
  subst el e2
  refine thn (po_none.run pins s2 σ H2 (fun o H3 => o = none ∧ H3 = H2) I2 ⟨rfl, rfl⟩) fun vu s3 ⟨u, H3, I3, pu, eu, e3⟩ => ?_
  subst eu e3
  refine thn (hst.run pins s3 σ H3 (fun o H4 => o = some (-1) ∧ H4 = H3) I3 ⟨1, rfl, -1, rfl, rfl, rfl⟩) fun vs s4 ⟨o, H4, I4, ps, eo, e4⟩ => ?_
  subst eo e4
  have I5 : Inv X pins σ H4 { s4 with heap := s4.heap.push { cls := .type "slice", data := .fields #[vl, vu, vs] } } := I4.kept (t' := s4.toks) fun b ob q => Heap.get?_push_of_some _ q
  obtain ⟨its, r, ht, hz⟩ := I5.tuple hx
  have hlen := r.length
  show wpAny (model X.prog X.w) X.A (subscriptTail e (.Slice none none (some (.UnaryOp .USub (.Constant (.int 1) k p1) p2)) p3) (.ref a) (.ref s4.heap.objs.size)) (EP X pins σ Q) X.xe { s4 with heap := s4.heap.push { cls := .type "slice", data := .fields #[vl, vu, vs] } }
  refine tail_any (ops := [.ref a, .ref s4.heap.objs.size]) ht.typeIs (PyProof.Rows.slot_tuple_getitem.lookup) ?_ (by with_unfolding_all rfl)
  refine getItem_tuple_rev ht (Heap.IsSliceOf.new _ vl vu vs) pl pu ps ?_ (by rw [← hlen]; exact hz)
  refine ⟨.ref _, _, I5.laid (t' := s4.toks) (o := .tup xs.reverse) (fun b ob q => Heap.get?_push_of_some _ q) (Nat.le_refl _) ?_, rfl, q _ (I5.hok.fresh (Nat.le_refl _))⟩
  exact ⟨by rw [List.length_reverse]; exact hz, _, r.reverse, IsTup.new _ _⟩
/-- t[::-1] of a tuple of data -/
theorem J_revT {k : Nat} (h : J X e δ fun r δ1 => ∃ ds, r = .tuple ds ∧ Φ (.tuple ds.reverse) δ1) : J X (.Subscript e (.Slice none none (some (.UnaryOp .USub (.Constant (.int 1) k p1) p2)) p3) pos) δ Φ := fun F σ G H Q r kk =>
  U_of (pe_revT pe_U) (h F σ G H _ r fun v d δ1 G1 H1 r1 s1 x1 ⟨ds, e1, q⟩ => by
    subst e1
    obtain ⟨a, vs, rfl, hv, hq⟩ := (SV.dt (δ := δ1) (ds := ds)).get r1 x1
    rcases hq with ⟨z, _⟩ | ⟨_, hq⟩
    · cases z
    · refine ⟨a, vs, rfl, hq, fun p hp => kk _ _ _ _ _ (r1.new hp) (s1.trans (same_new (r1.gnone hp))) ?_ q⟩
      have hd : DtAll X.K G1 vs ds := hv.toDt
      exact .dat (.tup (SqT.of upd_same) (DtAll.mono (same_new (r1.gnone hp)) _ _ (dt_rev hd))))
end
end SH
end

section
/-! SHD: locked dicts, isinstance of an own class, list(range), tuple(range), dict(pairs), try that runs through, sum, starred, zip of tuples, dict != {}. -/
namespace SH
open PySem PySem.Spec PyProof.Rows L2 DL
section
variable {X : Cx} {δ : S} {Φ : Post} {E : DE} {pos p p2 p3 p1 pos2 : Pos} {e a b o i : Expr} {es : List Expr} {te ta tb : TE}
/-! ### locks -/
theorem J_lock (n : Nat) (d : Addr) {kvs : List (Key × Rv)} (hi : δ.ob[n]? = some (d, MO.dk kvs)) (h : ∀ od vs, J X e ⟨δ.sl, δ.ob.set n (d, .lk od vs kvs)⟩ fun r δ1 => ∃ j, δ1.ob[j]? = some (d, .lk od vs kvs) ∧ Φ r ⟨δ1.sl, δ1.ob.set j (d, .dk kvs)⟩) : J X e δ Φ := fun F σ G H Q r k => by
  obtain ⟨_, _, u, h3, h4⟩ := r.at hi
  cases h4 with
  | @dk vs _ h4 =>
    refine U_of (pe_lock pe_U) ⟨d, _, h3, trivial, fun od => ?_⟩
    refine h od vs F σ G _ _ (r.mutO hi (.lk h4)) fun v x δ1 G1 H1 r1 s1 x1 ⟨j, hj, q⟩ => ?_
    obtain ⟨_, _, u, h5, h6⟩ := r1.at hj
    cases h6 with
    | lk h6 => exact ⟨h5, k v x _ G1 _ (r1.mutO hj (.dk h6)) s1 x1 q⟩
/-- the keys of a locked dict -/
def keysR (kvs : List (Key × Rv)) : List Rv := kvs.map fun kv => .dat (kD kv.1)
theorem dt_key {K : PySem.W.Frag} {G : Hp} (k : Key) : Dt K G (kV k) (kD k) := by
  cases k with
  | inl i => exact .int i
  | inr x => exact .str x
theorem kv_at {K : PySem.W.Frag} {G : Hp} {α : Type} {vs : List (α × V)} {kvs : List (α × Rv)} (h : KvAll K G vs kvs) {i : Nat} {k : α} {v : V} (e : vs[i]? = some (k, v)) : ∃ r, kvs[i]? = some (k, r) ∧ RvOk K G v r := by
  induction h generalizing i with
  | nil => simp at e
  | cons h t ih =>
    cases i with
    | zero =>
      simp at e
      obtain ⟨rfl, rfl⟩ := e
      exact ⟨_, rfl, h⟩
    | succ i => exact ih (by simpa using e)
theorem itok_keys {K : PySem.W.Frag} {G : Hp} {d : Addr} {od : Obj} {vs : List (Key × V)} {kvs : List (Key × Rv)} (hz : kvs.length ≤ sizeLine) : ItOk K (cHas d (.lk od vs kvs)) G (Itk d od vs) (keysR kvs) := by
  refine ⟨by simpa [keysR] using hz, fun F σ G' H δ i r c s hi => ?_, fun F σ G' H δ r c s => ?_, fun F σ G' H δ i x H' r c s hi y => ?_⟩
  · obtain ⟨_, _, u, h3, h4⟩ := r.hr.obs _ _ c
    cases h4 with
    | lk h4 => exact ⟨h3, by rw [h4.length]; simpa [keysR] using hi⟩
  · obtain ⟨_, _, u, h3, h4⟩ := r.hr.obs _ _ c
    cases h4 with
    | lk h4 => exact ⟨h3, by rw [h4.length]; simp [keysR]⟩
  · obtain ⟨_, _, u, h3, h4⟩ := r.hr.obs _ _ c
    cases h4 with
    | lk h4 =>
      obtain ⟨e1, k, v, e2, e3⟩ := y
      subst e1 e3
      obtain ⟨w, e4, _⟩ := kv_at h4 e2
      exact ⟨.dat (kD k), G', by simp [keysR, e4], r, Same.refl _, .dat (dt_key k)⟩
theorem JI_keys {tg l : Expr} {Θ : (S → Prop) → List Rv → S → Prop} (h : J X l δ fun d δ1 => ∃ (a : Addr) (i : Nat) (od : Obj) (vs : List (Key × V)) (kvs : List (Key × Rv)), d = .adr a ∧ δ1.ob[i]? = some (a, MO.lk od vs kvs) ∧ kvs.length ≤ 1000000 ∧ Θ (cHas a (.lk od vs kvs)) (keysR kvs) δ1) : JI X tg l δ Θ := fun F σ G H R r k =>
  UI_of (pi_keys pe_U) (h F σ G H _ r fun v d δ1 G1 H1 r1 s1 x1 ⟨a, i, od, vs, kvs, e, hi, hz, q⟩ => by
    subst e
    obtain rfl := rv_adr x1
    obtain ⟨_, _, u, h3, h4⟩ := r1.at hi
    cases h4 with
    | lk h4 => exact ⟨_, od, rfl, .inl ⟨vs, h3, k _ _ _ δ1 G1 H1 r1 s1 (itok_keys (Nat.le_trans hz (by decide))) q⟩⟩)
theorem J_dgetL (hu : X.A.units + 1 < cLine) (h : J X o δ fun r δ1 => J X i δ1 fun y δ2 => ∃ (a : Addr) (od : Obj) (vs : List (Key × V)) (kvs : List (Key × Rv)) (k : Key) (v : Rv) (j : Nat), r = .adr a ∧ y = .dat (kD k) ∧ δ2.ob[j]? = some (a, MO.lk od vs kvs) ∧ valR kvs k = some v ∧ Φ v δ2) (hs : NoSl i := by exact fun _ _ => rfl) : J X (.Subscript o i pos) δ Φ := fun F σ G H Q r k =>
  U_of (pe_dget hu pe_U pe_U hs) (h F σ G H _ r fun v d δ1 G1 H1 r1 s1 x1 q1 => q1 F σ G1 H1 _ r1 fun u y δ2 G2 H2 r2 s2 x2 ⟨a, od, vs, kvs, kk, w, j, e1, e2, hj, hv, q⟩ => by
    subst e1 e2
    obtain rfl := rv_adr x1
    obtain rfl := rv_key x2
    obtain ⟨_, _, u, h3, h4⟩ := r2.at hj
    cases h4 with
    | lk h4 =>
      obtain ⟨w', k1, k2⟩ := (val_kv (k := kk) h4).1 w hv
      exact ⟨a, w', rfl, .inl ⟨vs, kk, .inr ⟨od, h3⟩, rfl, k1.symm⟩, k w' w δ2 G2 H2 r2 (s1.trans s2) k2 q⟩)
/-! ### isinstance of an own class -/
theorem RC_isC {C dx : Addr} {d : Addr} {fs : List (Str × Rv)} (j : Nat) (hj : δ.ob[j]? = some (d, MO.ins C dx fs)) (q : Φ (.bool true) δ) : RC X (fun xs H Q => ∃ a dx fs, xs = [.ref a, .ref C] ∧ H a = some (.ins C dx fs) ∧ Q (.bl true) H) [.adr d, .adr C] δ Φ := fun F σ G H Q vs r hv k => by
  obtain ⟨v, w, rfl, h1, h2⟩ := ra2 hv
  obtain rfl := rv_adr h1
  obtain rfl := rv_adr h2
  obtain ⟨_, _, u, h3, h4⟩ := r.at hj
  cases h4 with
  | ins h4 => exact ⟨d, dx, _, rfl, h3, k _ _ δ G H r (Same.refl G) (.dat (.bl _)) q⟩
/-! ### sum -/
theorem RC_sum {d : Rv} {ns : List Int} (hx : SV δ d true (ns.map Rv.int)) (q : Φ (.int ns.sum) δ) : RC X (rSum X.K) [d] δ Φ := fun F σ G H Q vs r hv k => by
  obtain ⟨v, rfl, h1⟩ := ra1 hv
  obtain ⟨a, us, rfl, hd, hs⟩ := hx.get r h1
  rcases hs with ⟨_, hs⟩ | ⟨z, _⟩
  · have := ints_of hd
    subst this
    exact ⟨a, ns, rfl, hs, k _ _ δ G H r (Same.refl G) (.dat (.int _)) q⟩
  · cases z
/-! ### ranges as lists, as tuples -/
theorem rg_rv {K : PySem.W.Frag} {G : Hp} (lo hi : Int) : RvAll K G (rgV lo hi) (rangeD lo (hi - lo).toNat) := by
  unfold rgV rangeD
  generalize List.range (hi - lo).toNat = l
  induction l with
  | nil => exact .nil
  | cons x l ih => exact .cons (.dat (.int _)) ih
theorem J_listRg2 (hc : X.calm = true) (hml : X.mg "list" = none) (hmr : X.mg "range" = none) (h : J X a δ fun x δ1 => J X b δ1 fun y δ2 => ∃ i j, x = .int i ∧ y = .int j ∧ RgOk i j ∧ ∀ p, Φ (.adr p) ⟨δ2.sl, δ2.ob ++ [(p, .lst (rangeD i (j - i).toNat))]⟩)
    (hg : Gl X "list" := by rfl) (hg2 : Gl X "range" := by rfl) (na : starEach [a, b] X.env = (false, eval a X.env) :: starEach [b] X.env := by rfl)
    (nb : starEach [b] X.env = (false, eval b X.env) :: starEach [] X.env := by rfl) (hp : (backTo pos2 (starEach [b] X.env)).any (·.1) = false := by rfl) : J X (.Call (.Name "list" p) [.Call (.Name "range" p2) [a, b] [] pos2] [] pos) δ Φ := fun F σ G H Q r k =>
  U_of (pe_listRg hc hg hml (prg_2 hg2 hmr pe_U pe_U na nb hp)) (h F σ G H _ r fun v d δ1 G1 H1 r1 s1 x1 q1 => q1 F σ G1 H1 _ r1 fun u y δ2 G2 H2 r2 s2 x2 ⟨i, j, e1, e2, ok, q⟩ => by
    subst e1 e2
    obtain rfl := rv_int x1
    obtain rfl := rv_int x2
    exact ⟨i, j, rfl, rfl, ok, fun p hp => k _ _ _ _ _ (r2.newO hp (.lst (rg_rv i j))) (s1.trans s2) .adr (q p)⟩)
def intsD (lo : Int) (n : Nat) : List D := (List.range n).map fun i => .int (lo + (i : Nat))
theorem rg_dt {K : PySem.W.Frag} {G : Hp} (lo hi : Int) : DtAll K G (rgV lo hi) (intsD lo (hi - lo).toNat) := by
  unfold rgV intsD
  generalize List.range (hi - lo).toNat = l
  induction l with
  | nil => exact .nil
  | cons x l ih => exact .cons (.int _) ih
theorem J_tupRg1 (hc : X.calm = true) (hml : X.mg "tuple" = none) (hmr : X.mg "range" = none) (h : J X a δ fun x δ1 => ∃ j, x = .int j ∧ RgOk 0 j ∧ Φ (.tuple (intsD 0 (j - 0).toNat)) δ1)
    (hg : Gl X "tuple" := by rfl) (hg2 : Gl X "range" := by rfl) (na : starEach [a] X.env = (false, eval a X.env) :: starEach [] X.env := by rfl) : J X (.Call (.Name "tuple" p) [.Call (.Name "range" p2) [a] [] pos2] [] pos) δ Φ := fun F σ G H Q r k =>
  U_of (pe_tupRg hc hg hml (prg_1 hg2 hmr pe_U na)) (h F σ G H _ r fun v d δ1 G1 H1 r1 s1 x1 ⟨j, e1, ok, q⟩ => by
    subst e1
    obtain rfl := rv_int x1
    exact ⟨j, rfl, ok, fun p hp => k _ _ _ _ _ (r1.new hp) (s1.trans (same_new (r1.gnone hp))) (.dat (.tup (SqT.of upd_same) (rg_dt 0 j))) q⟩)
end
end SH
end

section
/-! SHE: list(range(a, b, -1)), dict(pairs), try that runs through, starred, zip of tuples, dict != {}, sorted pairs. -/
namespace SH
open PySem PySem.Spec PyProof.Rows L2 DL
section
variable {X : Cx} {δ : S} {Φ : Post} {E : DE} {pos p p2 p3 p1 pos2 : Pos} {e a b c o i : Expr} {es : List Expr} {te ta tb : TE}
/-! ### list(range(i, j, -1)) -/
def downV (i j : Int) : List V := (List.range (i - j).toNat).map fun k => V.int (i + (k : Nat) * (-1))
def downD (i : Int) (n : Nat) : List Rv := (List.range n).map fun k => Rv.int (i - (k : Nat))
theorem vals_down {i j : Int} {acc : Array Value} (h : ItemsOf (fun k v => ∃ t, v = .int (i + k * (-1)) t) acc (i - j).toNat) : Vals (downV i j) acc.toList := by
  have e : acc.toList.length = (i - j).toNat := by rw [Array.length_toList]; exact h.1
  unfold downV
  rw [← e]
  refine vals_of_get acc.toList _ fun k u hk => ?_
  obtain ⟨t, rfl⟩ := h.2 k u (by rw [← hk, Array.getElem?_toList])
  exact ⟨t, rfl⟩
theorem down_rv {K : PySem.W.Frag} {G : Hp} (i j : Int) : RvAll K G (downV i j) (downD i (i - j).toNat) := by
  unfold downV downD
  generalize List.range (i - j).toNat = l
  induction l with
  | nil => exact .nil
  | cons x l ih =>
    have e : i + (x : Int) * (-1) = i - (x : Nat) := by omega
    rw [List.map_cons, List.map_cons, e]
    exact .cons (.dat (.int _)) ih
theorem pe_listDown {t : TA} (hc : X.calm = true) (hg : Gl X "list") (hm : X.mg "list" = none) (hg2 : Gl X "range") (hm2 : X.mg "range" = none) (ha : PA X [a, b, c] t)
    (na : starEach [a, b, c] X.env = (false, eval a X.env) :: starEach [b, c] X.env) (hp : (backTo pos2 (starEach [b, c] X.env)).any (·.1) = false) :
    PE X (.Call (.Name "list" p) [.Call (.Name "range" p2) [a, b, c] [] pos2] [] pos) (fun σ H Q => t σ H fun vs H3 => ∃ i j : Int, vs = [V.int i, V.int j, V.int (-1)] ∧ -1000000 ≤ i ∧ i ≤ 1000000 ∧ -1000000 ≤ j ∧ j ≤ 1000000 ∧ ∀ q, H3 q = none → Q (.ref q) (upd H3 q (.lst (downV i j)))) := by
  refine ⟨fun pins s σ H Q I h => ?_⟩
  refine wpAny_Call_Name_kw (ld_blt I hg hm (by decide +kernel : bootBuiltins "list" = some (.type "list")) ?_)
  refine PyProof.Rows.callWith_type1 (T := "list") ?_ rfl rfl
  show wpAny _ _ (spliced ((false, eval (.Call (.Name "range" p2) [a, b, c] [] pos2) X.env) :: backTo pos (starEach [] X.env))) _ _ s
  refine Calls.spliced_cons ?_
  refine Call_ (ld_blt I hg2 hm2 boot_range (PyProof.Rows.callWith_type1 (thn (ha.run pos2 pins s σ H _ I h) fun us s1 ⟨vs, H1, I1, r1, i, j, e1, i0, i1, j0, j1, q⟩ => ?_) na hp))
  · subst e1
    cases r1 with
    | cons r rr =>
      cases rr with
      | cons r' rr =>
        cases rr with
        | cons r'' rr =>
          cases rr
          obtain ⟨t, rfl⟩ := r
          obtain ⟨t', rfl⟩ := r'
          obtain ⟨t'', rfl⟩ := r''
          have b1 : -(2 ^ 62) ≤ i := by omega
          have b2 : i < 2 ^ 62 := by omega
          have b3 : -(2 ^ 62) ≤ j := by omega
          have b4 : j < 2 ^ 62 := by omega
          refine call_range_3 (by decide) ?_ (.inl (PyProof.noPylong_small (by decide)))
          refine Calls.spliced_nil ?_
          have I2 : Inv X pins σ H1 { s1 with heap := s1.heap.push { cls := .type "range", data := .fields #[.int i t, .int j t', .int (-1) t''] } } := I1.kept (t' := s1.toks) fun b o e => Heap.get?_push_of_some _ e
          refine call_list_range (n := (i - j).toNat) (I2.ok.hd hc) (IsRange.new ..) (PySem.W.small_down b1 b2 b3 b4) (PySem.W.rangeSize_downNat i j) (by omega) fun h' tk acc c' hk e' hi => ?_
          refine ⟨.ref _, upd H1 _ (.lst (downV i j)), I2.laid hk (Nat.le_refl _) (show ObjOk X.prog X.w _ _ _ (.lst (downV i j)) from ⟨?_, acc.toList, c', vals_down hi, ?_⟩), rfl, q _ (I2.hok.fresh (Nat.le_refl _))⟩
          · unfold downV
            rw [List.length_map, List.length_range, sizeLine_eq]; omega
          · rw [Array.toArray_toList]; exact e'
theorem J_listDown (hc : X.calm = true) (hml : X.mg "list" = none) (hmr : X.mg "range" = none) (h : JA X [a, b, c] δ fun rs δ1 => ∃ i j : Int, rs = [Rv.int i, Rv.int j, Rv.int (-1)] ∧ -1000000 ≤ i ∧ i ≤ 1000000 ∧ -1000000 ≤ j ∧ j ≤ 1000000 ∧ ∀ p, Φ (.adr p) ⟨δ1.sl, δ1.ob ++ [(p, .lst (downD i (i - j).toNat))]⟩)
    (hg : Gl X "list" := by rfl) (hg2 : Gl X "range" := by rfl) (na : starEach [a, b, c] X.env = (false, eval a X.env) :: starEach [b, c] X.env := by rfl) (hp : (backTo pos2 (starEach [b, c] X.env)).any (·.1) = false := by rfl) :
    J X (.Call (.Name "list" p) [.Call (.Name "range" p2) [a, b, c] [] pos2] [] pos) δ Φ := fun F σ G H Q r k =>
  U_of (pe_listDown hc hg hml hg2 hmr pa_U na hp) (h F σ G H _ r fun vs ds δ1 G1 H1 r1 s1 x1 ⟨i, j, e1, i0, i1, j0, j1, q⟩ => by
    subst e1
    cases x1 with
    | cons y1 x1 =>
      obtain ⟨v, w, rfl, y2, y3⟩ := ra2 x1
      obtain rfl := rv_int y1
      obtain rfl := rv_int y2
      obtain rfl := rv_int y3
      exact ⟨i, j, rfl, i0, i1, j0, j1, fun p hp => k _ _ _ _ _ (r1.newO hp (.lst (down_rv i j))) s1 .adr (q p)⟩)
/-! ### dict(pairs) -/
/-- what dict of these pairs holds: keys all other -/
def pairD (kvs : List (Key × D)) : List D := kvs.map fun kv => .tuple [kD kv.1, kv.2]
def datK (kvs : List (Key × D)) : List (Key × Rv) := kvs.map fun kv => (kv.1, .dat kv.2)
theorem dt_keyV {K : PySem.W.Frag} {G : Hp} {v : V} {k : Key} (h : Dt K G v (kD k)) : v = kV k := rv_key (.dat h)
theorem pairs_dt {K : PySem.W.Frag} {G H : Hp} (s : Same G H) : ∀ {kvs : List (Key × D)} {vs : List V}, DtAll K G vs (pairD kvs) → ∃ (ps : List Addr) (ws : List (Key × V)), vs = ps.map V.ref ∧ Paired (fun p kv => SqT K H p [kV kv.1, kv.2]) ps ws ∧ KvAll K G ws (datK kvs) ∧ ws.map (·.1) = kvs.map (·.1)
  | [], _, h => by
    cases h
    exact ⟨[], [], rfl, .nil, .nil, rfl⟩
  | (k, d) :: kvs, _, h => by
    cases h with
    | cons h t =>
      obtain ⟨ps, ws, e1, e2, e3, e4⟩ := pairs_dt s t
      cases h with
      | tup h1 h2 =>
        cases h2 with
        | cons a1 h2 =>
          cases h2 with
          | cons a2 h2 =>
            cases h2
            have := dt_keyV a1
            subst this e1
            exact ⟨_ :: ps, (k, _) :: ws, rfl, .cons (Same.seqT s h1) e2, .cons (.dat a2) e3, by simp [e4]⟩
theorem merge_nodup : ∀ (ws acc : List (Key × V)), (ws.map (·.1)).Nodup → (∀ k ∈ ws.map (·.1), k ∉ acc.map (·.1)) → mergeK acc ws = acc ++ ws
  | [], acc, _, _ => by simp [mergeK]
  | (k, v) :: ws, acc, nd, h => by
    rw [List.map_cons, List.nodup_cons] at nd
    have h0 : (acc.any fun kv => decide (kv.1 = k)) = false := by
      rw [List.any_eq_false]
      intro p hp
      simp only [decide_eq_true_eq]
      intro e
      exact h k (by simp) (List.mem_map.mpr ⟨p, hp, e⟩)
    have e : putK acc k v = acc ++ [(k, v)] := by
      unfold putK
      rw [if_neg (by rw [h0]; exact Bool.false_ne_true)]
    show mergeK (putK acc k v) ws = _
    rw [e, merge_nodup ws _ nd.2 (fun j hj hm => by
      rw [List.map_append, List.mem_append] at hm
      rcases hm with hm | hm
      · exact h j (by simp; exact .inr (by simpa using hj)) hm
      · simp at hm
        subst hm
        exact nd.1 hj)]
    simp
theorem RC_dictP {d : Rv} {kvs : List (Key × D)} (hx : SV δ d true ((pairD kvs).map .dat)) (nd : (kvs.map (·.1)).Nodup) (q : ∀ p, Φ (.adr p) ⟨δ.sl, δ.ob ++ [(p, .dk (datK kvs))]⟩) :
    RC X (fun xs H Q => ∃ (a : Addr) (ps : List Addr) (kvs : List (Key × V)), xs = [.ref a] ∧ SqL X.K H a (ps.map V.ref) ∧ Paired (fun p kv => SqT X.K H p [kV kv.1, kv.2]) ps kvs ∧ ∀ p, H p = none → Q (.ref p) (upd H p (.dK (mergeK [] kvs)))) [d] δ Φ := fun F σ G H Q vs r hv k => by
  obtain ⟨v, rfl, h1⟩ := ra1 hv
  obtain ⟨a, us, rfl, hd, hs⟩ := hx.get r h1
  rcases hs with ⟨_, hs⟩ | ⟨z, _⟩
  · obtain ⟨ps, ws, e1, e2, e3, e4⟩ := pairs_dt r.hr.ext hd.toDt
    subst e1
    refine ⟨a, ps, ws, rfl, hs, e2, fun p hp => ?_⟩
    rw [merge_nodup ws [] (by rw [e4]; exact nd) (fun k hk hm => by cases hm)]
    exact k _ _ _ _ _ (r.newO hp (.dk e3)) (Same.refl G) .adr (q p)
  · cases z
/-! ### dict != {} -/
def rNeE : R2 := fun x y H Q => ∃ a b ks, x = .ref a ∧ y = .ref b ∧ H a = some (.dK ks) ∧ H b = some (.dK []) ∧ Q (.bl (!ks.isEmpty)) H
theorem op_neDE (hu : X.A.units < cLine) : OpR X (compareOp .NotEq) rNeE := by
  intro pins s σ H x y v u Q I rx ry h
  obtain ⟨a, b, ks, rfl, rfl, ea, eb, q⟩ := h
  obtain rfl : v = Value.ref a := rx
  obtain rfl : u = Value.ref b := ry
  obtain ⟨_, ya, va, ra, da⟩ := (show ObjOk X.prog X.w H s.heap a (.dK ks) from I.hok a _ ea)
  obtain ⟨_, yb, vb, rb, db⟩ := (show ObjOk X.prog X.w H s.heap b (.dK []) from I.hok b _ eb)
  cases rb
  have hl := ra.length
  refine PySem.W.keq_ne (knd := mixKind X.prog X.w) (r := true) ya yb da db hu (fun e => ?_) (fin_bl I q ?_)
  · have : va = [] := List.eq_nil_of_length_eq_zero e
    subst this
    exact .nil
  · cases ks with
    | nil =>
      have : va = [] := List.eq_nil_of_length_eq_zero hl.symm
      subst this
      rfl
    | cons k ks =>
      cases va with
      | nil => cases hl
      | cons z va => simp
theorem RJ_neDE {x y : Addr} {kvs : List (Key × Rv)} (n m : Nat) (hx : δ.ob[n]? = some (x, MO.dk kvs)) (hy : δ.ob[m]? = some (y, MO.dk [])) (q : Φ (.bool (!kvs.isEmpty)) δ) : RJ X rNeE (.adr x) (.adr y) δ Φ := fun F σ G H Q v u r x1 y1 k => by
  obtain rfl := rv_adr x1
  obtain rfl := rv_adr y1
  obtain ⟨_, _, u1, h1, h2⟩ := r.at hx
  obtain ⟨_, _, u2, h3, h4⟩ := r.at hy
  cases h2 with
  | dk h2 =>
    cases h4 with
    | dk h4 =>
      cases h4
      refine ⟨x, y, _, rfl, rfl, h1, h3, ?_⟩
      have e : ∀ {ws : List (Key × V)} {kvs : List (Key × Rv)}, KvAll X.K G ws kvs → ws.isEmpty = kvs.isEmpty := fun h => by cases h <;> rfl
      rw [e h2]
      exact k _ _ δ G H r (Same.refl G) (.dat (.bl _)) q
/-! ### starred -/
theorem JA_star {Φ : List Rv → S → Prop} (h : J X e δ fun r δ1 => ∃ b rs, SV δ1 r b rs ∧ (∀ δ2, δ2 = δ1 → JA X es δ2 fun ds δ3 => Φ (rs ++ ds) δ3)) (hs : starEach (.Starred e p :: es) X.env = (true, eval e X.env) :: starEach es X.env := by rfl) : JA X (.Starred e p :: es) δ Φ := fun F σ G H Q r k =>
  UA_of (StX.pa_star pe_U pa_U hs) (h F σ G H _ r fun v d δ1 G1 H1 r1 s1 x1 ⟨b, rs, sv, q⟩ => by
    obtain ⟨a, us, rfl, hd, hs⟩ := sv.get r1 x1
    refine ⟨a, us, rfl, ?_, q δ1 rfl F σ G1 H1 _ r1 fun ws ds δ2 G2 H2 r2 s2 x2 q2 => k _ _ _ _ _ r2 (s1.trans s2) ((hd.mono s2).append x2) q2⟩
    rcases hs with ⟨_, hs⟩ | ⟨_, hs⟩
    · exact .inr hs
    · exact .inl hs)
end
end SH
end

section
/-! SHF: zip of tuples, sorted pairs of ints, try that runs through. -/
namespace SH
open PySem PySem.Spec PyProof.Rows L2 DL
section
variable {X : Cx} {δ : S} {Φ : Post} {E : DE} {pos pos' np p p2 p3 p1 pos2 : Pos} {e a b c o i : Expr} {es : List Expr} {te ta tb : TE}
/-! ### zip of two tuples of data -/
def zipD : List D → List D → List Rv
  | x :: xs, y :: ys => .tuple [x, y] :: zipD xs ys
  | _, _ => []
theorem zipD_len : ∀ xs ys : List D, (zipD xs ys).length = min xs.length ys.length
  | [], _ => by simp [zipD]
  | _ :: _, [] => by simp [zipD]
  | x :: xs, y :: ys => by simp [zipD, zipD_len xs ys]
theorem zipD_at : ∀ (xs ys : List D) (i : Nat) (x y : D), xs[i]? = some x → ys[i]? = some y → (zipD xs ys)[i]? = some (.tuple [x, y])
  | [], _, _, _, _, h, _ => by simp at h
  | _ :: _, [], _, _, _, _, h => by simp at h
  | x' :: xs, y' :: ys, 0, x, y, h1, h2 => by simp at h1 h2; subst h1 h2; simp [zipD]
  | x' :: xs, y' :: ys, i + 1, x, y, h1, h2 => by simpa [zipD] using zipD_at xs ys i x y (by simpa using h1) (by simpa using h2)
theorem DtAll.len {K : PySem.W.Frag} {G : Hp} : ∀ {vs : List V} {ds : List D}, DtAll K G vs ds → vs.length = ds.length
  | _, _, .nil => rfl
  | _, _, .cons _ t => by simp [DtAll.len t]
theorem dt_at {K : PySem.W.Frag} {G : Hp} : ∀ {vs : List V} {ds : List D} {i : Nat} {v : V}, DtAll K G vs ds → vs[i]? = some v → ∃ d, ds[i]? = some d ∧ Dt K G v d
  | _, _, _, _, .nil, h => by simp at h
  | _, _, 0, v, .cons h _, e => by simp at e; subst e; exact ⟨_, rfl, h⟩
  | _, _, i + 1, v, .cons _ t, e => dt_at (i := i) t (by simpa using e)
theorem itok_zip {K : PySem.W.Frag} {G : Hp} {a b : Addr} {vs us : List V} {ds es : List D} (h1 : SqT K G a vs) (h2 : SqT K G b us) (d1 : DtAll K G vs ds) (d2 : DtAll K G us es) (hz : vs.length ≤ sizeLine) : ItOk K cYes G (RZ.ItzT K a b) (zipD ds es) := by
  have l1 := DtAll.len d1
  have l2 := DtAll.len d2
  have lz := zipD_len ds es
  refine ⟨by omega, fun F σ G' H δ i r _ s hi => ?_, fun F σ G' H δ r _ s => ?_, fun F σ G' H δ i x H' r _ s hi y => ?_⟩
  · have s' := s.trans r.hr.ext
    have e1 : i < vs.length := by omega
    have e2 : i < us.length := by omega
    exact ⟨vs, us, _, _, Same.seqT s' h1, Same.seqT s' h2, List.getElem?_eq_getElem e1, List.getElem?_eq_getElem e2⟩
  · have s' := s.trans r.hr.ext
    exact ⟨vs, us, Same.seqT s' h1, Same.seqT s' h2, by omega⟩
  · have s' := s.trans r.hr.ext
    obtain ⟨T, x1, y1, rfl, hT, rfl, f1, f2⟩ := y
    obtain ⟨dx, q1, q2⟩ := dt_at d1 (f1 vs (Same.seqT s' h1))
    obtain ⟨dy, q3, q4⟩ := dt_at d2 (f2 us (Same.seqT s' h2))
    have g0 := r.gnone hT
    have sg : Same G (upd G' T (.tup [x1, y1])) := s.trans (same_new g0)
    exact ⟨.tuple [dx, dy], _, zipD_at ds es i dx dy q1 q3, r.new hT, same_new g0, .dat (.tup (SqT.of upd_same) (.cons (Dt.mono sg _ _ q2) (.cons (Dt.mono sg _ _ q4) .nil)))⟩
theorem JI_zip {elts : List Expr} {kk : Nat} {tpos : Pos} {Θ : (S → Prop) → List Rv → S → Prop} (hm : X.mg "zip" = none) (h : JA X [a, b] δ fun rs δ1 => ∃ ds es, rs = [.tuple ds, .tuple es] ∧ ds.length ≤ 1000000 ∧ Θ cYes (zipD ds es) δ1) (hg : Gl X "zip" := by rfl)
    (hs : starEach [a, b] X.env = (false, eval a X.env) :: starEach [b] X.env := by rfl) (hpl : (backTo pos (starEach [b] X.env)).any (·.1) = false := by rfl) : JI X (.Tuple elts kk tpos) (.Call (.Name "zip" p) [a, b] [] pos) δ Θ := fun F σ G H R r k =>
  UI_of (RZ.pi_zipA hg hm pa_U hs hpl) (h F σ G H _ r fun vs rs δ1 G1 H1 r1 s1 x1 ⟨ds, es, e1, hz, q⟩ => by
    subst e1
    obtain ⟨v, w, rfl, y1, y2⟩ := ra2 x1
    cases rv_dat y1 with
    | tup h1 h2 =>
      cases rv_dat y2 with
      | tup h3 h4 =>
        refine ⟨_, _, _, _, rfl, .inr ⟨Same.seqT r1.hr.ext h1, Same.seqT r1.hr.ext h3, k _ _ _ δ1 G1 H1 r1 s1 (itok_zip h1 h3 h2 h4 ?_) q⟩⟩
        rw [DtAll.len h2]
        exact Nat.le_trans hz (by decide))
/-! ### try that runs through -/
theorem JS_try {x n : Str} {cl : Value} {ix : Nat} {body suite : List Stmt} {b₀ : Stmt} (h : ∀ pn xe, JSs (X.tr pn xe) body δ E) (hs : X.stack = X.env :: X.outer) (hf : X.env.frame = some X.env.locals) (hN : X.N.Nodup) (hi : X.N[ix]? = some n) (hln : X.env.kindOf n = some .local) (hc : Names X x cl) :
    JS X (.Try body [.ExceptHandler (some (.Name x np)) (some n) (b₀ :: suite) pos'] [] [] pos) δ E := fun F σ G H D r ok => by
  refine US_of (ps_try_as (tb := fun _ D σ H => ∀ pn xe, USs (X.tr pn xe) body D σ H) (ts := fun _ _ _ _ _ _ => False) hs hf hN hi hln hc takes_none5 (fun W pn xe _ _ => ⟨fun pins s σ H D I hw => hw pn xe pins s I⟩) (fun _ _ _ _ _ _ _ => ⟨fun _ _ _ _ _ _ hw => hw.elim⟩)) ?_
  exact fun pn xe => h pn xe F σ G H D r ok
theorem JT_chain {op op' : CmpOp} {r r' : R2} {Ψ : Bool → S → Prop} (ho : OpR X (compareOp op) r) (ho' : OpR X (compareOp op') r')
    (h : J X a δ fun x δ1 => J X b δ1 fun y δ2 => RJ X r x y δ2 fun d δ3 => ∃ k, d = .bool k ∧ (k = true → J X c δ3 fun z δ4 => RJ X r' y z δ4 fun d δ5 => ∃ k, d = .bool k ∧ Ψ k δ5) ∧ (k = false → Ψ false δ3))
    (hm : lastMarks [op, op'] [b, c] = false := by with_unfolding_all rfl) : JT X (.Compare a [op, op'] [b, c] pos) δ Ψ := fun F σ G H Q rl k =>
  UT_of (pt_chain ho ho' pe_U pe_U pe_U hm) (h F σ G H _ rl fun v x δ1 G1 H1 r1 s1 x1 q1 => q1 F σ G1 H1 _ r1 fun u y δ2 G2 H2 r2 s2 x2 q2 =>
    q2 F σ G2 H2 _ v u r2 (x1.mono s2) x2 fun w d δ3 G3 H3 r3 s3 x3 ⟨t, e, q3, q4⟩ => by
      subst e
      obtain rfl := rv_bool x3
      refine ⟨t, rfl, ?_⟩
      cases t with
      | true => exact iteT (q3 rfl F σ G3 H3 _ r3 fun z' z δ4 G4 H4 r4 s4 x4 q5 => q5 F σ G4 H4 _ u z' r4 (x2.mono (s3.trans s4)) x4 fun w' d' δ5 G5 H5 r5 s5 x5 ⟨t', e', q6⟩ => by
          subst e'
          obtain rfl := rv_bool x5
          exact ⟨t', rfl, k t' δ5 G5 H5 r5 ((((s1.trans s2).trans s3).trans s4).trans s5) q6⟩)
      | false => exact iteF ⟨false, rfl, k _ δ3 G3 H3 r3 ((s1.trans s2).trans s3) (q4 rfl)⟩)
/-! ### sorted(pairs of ints) -/
def pairI (l : List (Int × Int)) : List D := l.map fun q => .tuple [.int q.1, .int q.2]
end
end SH
end

section
/-! SHG: sorted(pairs) of pairs of ints that stand sorted. -/
namespace SH
open PySem PySem.Spec PyProof.Rows L2 DL
def rSortedPT (K : PySem.W.Frag) : List V → Hp → VK → Prop := fun vs H Q => ∃ (a : Addr) (xs : List V) (k : V → Int × Int), vs = [V.ref a] ∧ SqL K H a xs ∧ (∀ x ∈ xs, ∃ t, x = V.ref t ∧ SqT K H t [.int (k x).1, .int (k x).2]) ∧
  ∀ ys p, SrtO.Srtd (ltP k) ys → SrtO.Stb (ltP k) ys xs → H p = none → Q (.ref p) (upd H p (.lst ys))
section
variable {X : Cx}
theorem cr_sortedPT : CallR X (.builtin "sorted") (rSortedPT X.K) := by
  intro pins s σ H vs us Q I r h
  obtain ⟨a, xs, k, rfl, hs, hx, q⟩ := h
  obtain ⟨its, rv, hl, hz⟩ := I.list hs
  obtain ⟨u, rfl, ru⟩ := vals1 r
  obtain rfl : u = Value.ref a := ru
  obtain ⟨e1, e2⟩ := refs_back rv fun x m => by
    obtain ⟨t, e, _⟩ := hx x m
    exact ⟨t, e⟩
  refine SrtO.sorted_pairsO (k := fun u => k (backV u)) hl.isList (by rw [← rv.length]; exact hz) (fun v hv => ?_) fun h' d out h1 h2 kp hd hn => ?_
  · obtain ⟨t, rfl⟩ := e2 v hv
    have hm : V.ref t ∈ xs := by rw [e1]; exact List.mem_map.mpr ⟨_, hv, rfl⟩
    obtain ⟨t', e, ht⟩ := hx _ hm
    cases e
    obtain ⟨its2, r2, ⟨o, ho, hc, n, hd⟩, _⟩ := I.tuple ht
    obtain ⟨u1, u2, rfl, ri, rj⟩ := vals2 r2
    obtain ⟨t1, rfl⟩ := ri
    obtain ⟨t2, rfl⟩ := rj
    exact ⟨t, o, t1, t2, n, rfl, ho, hc, hd⟩
  · have h3 : ∀ u ∈ out, ∃ a, u = Value.ref a := fun u hu => e2 u (h2.perm.mem_iff.mp hu)
    obtain ⟨n, hn⟩ := hn
    have hb : SrtO.Stb (ltP k) (out.map backV) xs := by
      rw [e1]
      exact SrtO.Stb.map (ltP_swo k) backV h2
    refine ⟨.ref d, upd H d (.lst (out.map backV)), I.laid (t' := s.toks) kp hd ⟨?_, out, n, vals_back h3, hn⟩, rfl, q _ d (SrtO.srtd_map h1) hb (I.hok.fresh hd)⟩
    rw [hb.len]
    exact hz
/-- xs, as it stands, is sorted by the pairs l -/
def rSortedPI (K : PySem.W.Frag) : List V → Hp → VK → Prop := fun vs H Q => ∃ (a : Addr) (xs : List V) (l : List (Int × Int)), vs = [V.ref a] ∧ SqL K H a xs ∧ Paired (fun x (q : Int × Int) => ∃ t, x = V.ref t ∧ SqT K H t [.int q.1, .int q.2]) xs l ∧ l.Pairwise (fun a b => a.1 < b.1) ∧
  ∀ p, H p = none → Q (.ref p) (upd H p (.lst xs))
open Classical in
noncomputable def keyOf (K : PySem.W.Frag) (H : Hp) (v : V) : Int × Int := if h : ∃ q : Int × Int, ∃ t, v = V.ref t ∧ SqT K H t [.int q.1, .int q.2] then h.choose else (0, 0)
theorem cr_sortedPI : CallR X (.builtin "sorted") (rSortedPI X.K) := by
  intro pins s σ H vs us Q I r h
  obtain ⟨a, xs, l, rfl, hs, hp, hl, q⟩ := h
  have key : ∀ x (p : Int × Int), (∃ t, x = V.ref t ∧ SqT X.K H t [.int p.1, .int p.2]) → keyOf X.K H x = p := fun x p hx => by
    unfold keyOf
    have hex : ∃ q : Int × Int, ∃ t, x = V.ref t ∧ SqT X.K H t [.int q.1, .int q.2] := ⟨p, hx⟩
    rw [dif_pos hex]
    obtain ⟨t, e, h1⟩ := hx
    obtain ⟨t', e', h2⟩ := hex.choose_spec
    rw [e] at e'
    cases e'
    have := I.tuple_inj h2 h1
    simp only [List.cons.injEq, V.int.injEq, and_true] at this
    exact Prod.ext this.1 this.2
  have hk : xs.map (keyOf X.K H) = l := by
    clear hl q hs
    induction hp with
    | nil => rfl
    | cons h t ih =>
      rw [List.map_cons, ih, key _ _ h]
  have hmem : ∀ x ∈ xs, ∃ t, x = V.ref t ∧ SqT X.K H t [.int (keyOf X.K H x).1, .int (keyOf X.K H x).2] := by
    clear hl q hs hk
    induction hp with
    | nil => intro x hx; cases hx
    | cons h t ih =>
      intro x hx
      rcases List.mem_cons.mp hx with rfl | hx
      · have e := key _ _ h
        obtain ⟨t, e1, e2⟩ := h
        rw [e]
        exact ⟨t, e1, e2⟩
      · exact ih x hx
  refine cr_sortedPT pins s σ H _ us Q I r ⟨a, xs, keyOf X.K H, rfl, hs, hmem, fun ys p h1 h2 hp' => ?_⟩
  have hsx : SrtO.Srtd (ltP (keyOf X.K H)) xs := by
    rw [← hk] at hl
    have := List.pairwise_map.mp hl
    refine this.imp fun {x y} hxy => ?_
    refine SrtO.lexB_no.mpr ?_
    omega
  have : ys = xs := SrtO.stb_uniq (ltP_swo _) h1 hsx h2
  rw [this]
  exact q p hp'
end
section
variable {X : Cx} {δ : S} {Φ : Post}
def prI (l : List (Int × Int)) : List D := l.map fun q => .tuple [.int q.1, .int q.2]
theorem pr_dt {K : PySem.W.Frag} {G H : Hp} (s : Same G H) : ∀ {l : List (Int × Int)} {vs : List V}, DtAll K G vs (prI l) → Paired (fun x (q : Int × Int) => ∃ t, x = V.ref t ∧ SqT K H t [.int q.1, .int q.2]) vs l
  | [], _, h => by
    cases h
    exact .nil
  | q :: l, _, h => by
    cases h with
    | cons h t =>
      cases h with
      | tup h1 h2 =>
        cases h2 with
        | cons a1 h2 =>
          cases h2 with
          | cons a2 h2 =>
            cases h2
            cases a1
            cases a2
            exact .cons ⟨_, rfl, Same.seqT s h1⟩ (pr_dt s t)
theorem RC_sortedPI {d : Rv} {l : List (Int × Int)} (hx : SV δ d true ((prI l).map .dat)) (hs : l.Pairwise fun a b => a.1 < b.1) (q : ∀ p, Φ (.adr p) ⟨δ.sl, δ.ob ++ [(p, .lst ((prI l).map .dat))]⟩) : RC X (rSortedPI X.K) [d] δ Φ := fun F σ G H Q vs r hv k => by
  obtain ⟨v, rfl, h1⟩ := ra1 hv
  obtain ⟨a, us, rfl, hd, hz⟩ := hx.get r h1
  rcases hz with ⟨_, hz⟩ | ⟨z, _⟩
  · exact ⟨a, us, l, rfl, hz, pr_dt r.hr.ext hd.toDt, hs, fun p hp => k _ _ _ _ _ (r.newO hp (.lst hd)) (Same.refl G) .adr (q p)⟩
  · cases z
end
end SH
end

section
open PySem PySem.Spec PyProof.Rows L2 DL SH
/-! K71A: the text; checks. -/
namespace K71
def top (i : Nat) : Stmt := PySem.Challenge.pw_roomforall_k71_which_cells_are_taken.main.body.getD i (.Pass ⟨0, 0, 0, 0⟩)
abbrev FnP (K : PySem.W.Frag) (x : Str) (st : Stmt) (f : Addr) (fd : FuncData) : Prop := FunD K x x (defArgs st) (defBody st) (defScope st) [] [] f fd
/-- the built-in things that the module leaves as they are -/
structure Tx (mg : Str → Option Value) : Prop where
  isi : mg "isinstance" = none
  list : mg "list" = none
  tuple : mg "tuple" = none
  str : mg "str" = none
  bool : mg "bool" = none
  dict : mg "dict" = none
  len : mg "len" = none
  all : mg "all" = none
  sum : mg "sum" = none
  range : mg "range" = none
  int : mg "int" = none
  abs : mg "abs" = none
  enumerate : mg "enumerate" = none
  zip : mg "zip" = none
  sorted : mg "sorted" = none
def lettersS : Str := "abcdefghijklmnopqrstuvwxyz"
structure Tc (mg : Str → Option Value) : Prop where
  letters : ∃ t, mg "LETTERS" = some (.str lettersS t)
  mostN : ∃ t, mg "MOST_NAME" = some (.int 8 t)
  mk_ : ∃ t, mg "MAKE" = some (.str "make" t)
  cl : ∃ t, mg "CALL" = some (.str "call" t)
  gv : ∃ t, mg "GIVE" = some (.str "give" t)
  tl : ∃ t, mg "TAIL" = some (.str "tail" t)
  en : ∃ t, mg "ENTER" = some (.str "enter" t)
  mt : ∃ t, mg "MATCH" = some (.str "match" t)
  op : ∃ t, mg "OPEN" = some (.str "open" t)
  lv : ∃ t, mg "LEAVE" = some (.str "leave" t)
  mc : ∃ t, mg "MOST_CELLS" = some (.int 9 t)
  mf : ∃ t, mg "MOST_FRAME" = some (.int 18 t)
  mfi : ∃ t, mg "MOST_FIELDS" = some (.int 4 t)
  mr : ∃ t, mg "MOST_REGISTER" = some (.int 31 t)
  mn : ∃ t, mg "MOST_NODES" = some (.int 24 t)
  mp : ∃ t, mg "MOST_PLACES" = some (.int 4000 t)
  mro : ∃ t, mg "MOST_ROWS" = some (.int 30000 t)
  mrm : ∃ t, mg "MOST_ROOM" = some (.int 100000 t)
  mld : ∃ t, mg "MOST_LOADED" = some (.int 2000 t)
  rn : ∃ t, mg "RUNS" = some (.str "runs" t)
def isInt : D → Bool
  | .int _ => true
  | _ => false
def isB : D → Bool
  | .bool _ => true
  | _ => false
theorem kb_int (d : D) : kitB (tyName d) "int" = some (isInt d || isB d) := by
  cases d <;> first | exact (by decide +kernel : kitB "NoneType" "int" = some false) | exact (by decide +kernel : kitB "bool" "int" = some true) | exact (by decide +kernel : kitB "int" "int" = some true) | exact (by decide +kernel : kitB "str" "int" = some false) | exact (by decide +kernel : kitB "list" "int" = some false) | exact (by decide +kernel : kitB "tuple" "int" = some false) | exact (by decide +kernel : kitB "dict" "int" = some false)
theorem kb_bool (d : D) : kitB (tyName d) "bool" = some (isB d) := by
  cases d <;> first | exact (by decide +kernel : kitB "NoneType" "bool" = some false) | exact (by decide +kernel : kitB "bool" "bool" = some true) | exact (by decide +kernel : kitB "int" "bool" = some false) | exact (by decide +kernel : kitB "str" "bool" = some false) | exact (by decide +kernel : kitB "list" "bool" = some false) | exact (by decide +kernel : kitB "tuple" "bool" = some false) | exact (by decide +kernel : kitB "dict" "bool" = some false)
def isRow (d : D) (l m : Int) : Bool := seqB d && (decide (l ≤ lenD d) && decide (lenD d ≤ m))
def isName : D → Bool
  | .str z => decide ((1 : Int) ≤ (z.length : Nat)) && (decide (((z.length : Nat) : Int) ≤ 8) && (signsD z).all (inS lettersS))
  | _ => false
def isRowD (d l m : D) : D := match l, m with
  | .int l, .int m => .bool (isRow d l m)
  | _, _ => .none
def ints2 (d l m : D) : Prop := ∃ i j, l = .int i ∧ m = .int j
def isWD (d l m : D) : D := match d, l, m with
  | .int i, .int l, .int m => .bool (decide (l ≤ i) && decide (i ≤ m))
  | _, _, _ => .none
def ints3 (d l m : D) : Prop := ∃ n i j, d = .int n ∧ l = .int i ∧ m = .int j
theorem isRow_seq {d : D} {l m : Int} (h : isRow d l m = true) : ∃ xs, seqOf d = some xs ∧ items d = xs ∧ l ≤ (xs.length : Nat) ∧ ((xs.length : Nat) : Int) ≤ m := by
  unfold isRow at h
  simp only [Bool.and_eq_true, decide_eq_true_eq] at h
  obtain ⟨xs, e1, e3, e2⟩ := seq_some h.1
  rw [e2] at h
  exact ⟨xs, e1, e3, h.2.1, h.2.2⟩
section
variable {P : Program} {w : World} {K : PySem.W.Frag} {mg : Str → Option Value} {base : Heap} {f : Addr} {fd : FuncData}
abbrev sInteger : Stmt := top 4
abbrev sWithin : Stmt := top 5
abbrev sListed : Stmt := top 6
abbrev sRow : Stmt := top 7
abbrev sName : Stmt := top 8
abbrev CalInteger (P : Program) (w : World) (K : PySem.W.Frag) (mg : Str → Option Value) (base : Heap) : Prop := Cal P w K mg base "is_integer" 1 ["value"] (sp1 (fun _ => True) fun d => .bool (isInt d))
abbrev CalWithin (P : Program) (w : World) (K : PySem.W.Frag) (mg : Str → Option Value) (base : Heap) : Prop := Cal P w K mg base "is_within" 2 ["value", "least", "most"] (sp3 ints3 isWD)
abbrev CalListed (P : Program) (w : World) (K : PySem.W.Frag) (mg : Str → Option Value) (base : Heap) : Prop := Cal P w K mg base "is_listed" 1 ["value"] (sp1 (fun _ => True) fun d => .bool (seqB d))
abbrev CalRow (P : Program) (w : World) (K : PySem.W.Frag) (mg : Str → Option Value) (base : Heap) : Prop := Cal P w K mg base "is_row" 2 ["value", "least", "most"] (sp3 ints2 isRowD)
abbrev CalName (P : Program) (w : World) (K : PySem.W.Frag) (mg : Str → Option Value) (base : Heap) : Prop := Cal P w K mg base "is_name" 1 ["value"] (sp1 (fun d => okD d = true) fun d => .bool (isName d))
theorem scInteger : FnScope ["value"] ["value"] (defScope sInteger) := ⟨rfl, rfl, rfl, by decide +kernel, rfl, by decide +kernel, by decide +kernel⟩
theorem ok_integer (F : FnP K "is_integer" sInteger f fd) (m : mg "is_integer" = some (.ref f)) (T : Tx mg) : CalInteger P w K mg base := by
  refine ⟨f, fd, fnG_of F scInteger (fun cdv A outer s H as Φ hr hs hl => ?_), m, F.kp, F.bindsN fun _ _ _ _ _ _ us hl => match us, hl with | [_], _ => rfl⟩
  obtain ⟨d, rfl, _, q⟩ := hs
  refine JSs_one <| JS_ret <| J_and <| isi1 "int" T.isi T.int <| J_name 0 rfl ⟨_, _, rfl, kb_int d, _, rfl, fun h => J_one <| J_not <| isi1 "bool" T.isi T.bool <| J_name 0 rfl ⟨_, _, rfl, kb_bool d, _, rfl, [], List.nodup_nil, fin_of q ?_⟩, fun h => ⟨[], List.nodup_nil, fin_of q ?_⟩⟩
  · cases d <;> first | rfl | cases h
  · cases d <;> first | rfl | cases h
theorem scWithin : FnScope ["value", "least", "most"] ["value", "least", "most"] (defScope sWithin) := ⟨rfl, rfl, rfl, by decide +kernel, rfl, by decide +kernel, by decide +kernel⟩
theorem ok_within (F : FnP K "is_within" sWithin f fd) (m : mg "is_within" = some (.ref f)) (T : Tx mg) (c1 : CalInteger P w K mg base) : CalWithin P w K mg base := by
  refine ⟨f, fd, fnG_of F scWithin (fun cdv A outer s H as Φ hr hs hl => ?_), m, F.kp, F.bindsN fun _ _ _ _ _ _ us hl => match us, hl with | [_, _, _], _ => rfl⟩
  obtain ⟨_, _, _, rfl, ⟨n, l, m, rfl, rfl, rfl⟩, q⟩ := hs
  refine JSs_one <| JS_ret <| J_and <| J_c1 c1 hr <| JA_cons <| J_name 0 rfl <| JA_nil ⟨_, rfl, rfl, trivial, _, rfl, fun h => ?_, fun h => by cases h⟩
  refine J_one <| J_chain op_le op_le <| J_name 1 rfl <| J_name 0 rfl <| RJ_le ⟨_, rfl, fun h2 => ?_, fun h2 => ?_⟩
  · exact J_name 2 rfl <| RJ_le ⟨[], List.nodup_nil, fin_of q (by simp only [isWD, h2, Bool.true_and])⟩
  · exact ⟨[], List.nodup_nil, fin_of q (by simp only [isWD, h2, Bool.false_and])⟩
theorem scListed : FnScope ["value"] ["value"] (defScope sListed) := ⟨rfl, rfl, rfl, by decide +kernel, rfl, by decide +kernel, by decide +kernel⟩
theorem ok_listed (F : FnP K "is_listed" sListed f fd) (m : mg "is_listed" = some (.ref f)) (T : Tx mg) : CalListed P w K mg base := by
  refine ⟨f, fd, fnG_of F scListed (fun cdv A outer s H as Φ hr hs hl => ?_), m, F.kp, F.bindsN fun _ _ _ _ _ _ us hl => match us, hl with | [_], _ => rfl⟩
  obtain ⟨d, rfl, _, q⟩ := hs
  exact JSs_one <| JS_ret <| isi2 "list" "tuple" T.isi T.list T.tuple <| J_name 0 rfl ⟨_, _, _, rfl, kb_list d, kb_tup d, [], List.nodup_nil, q⟩
theorem scRow : FnScope ["value", "least", "most"] ["value", "least", "most"] (defScope sRow) := ⟨rfl, rfl, rfl, by decide +kernel, rfl, by decide +kernel, by decide +kernel⟩
theorem ok_row (F : FnP K "is_row" sRow f fd) (m : mg "is_row" = some (.ref f)) (T : Tx mg) (c1 : CalListed P w K mg base) : CalRow P w K mg base := by
  refine ⟨f, fd, fnG_of F scRow (fun cdv A outer s H as Φ hr hs hl => ?_), m, F.kp, F.bindsN fun _ _ _ _ _ _ us hl => match us, hl with | [_, _, _], _ => rfl⟩
  obtain ⟨d, _, _, rfl, ⟨l, m, rfl, rfl⟩, q⟩ := hs
  refine JSs_one <| JS_ret <| J_and <| J_c1 c1 hr <| JA_cons <| J_name 0 rfl <| JA_nil ⟨_, rfl, rfl, trivial, _, rfl, fun h => ?_, fun h => ?_⟩
  · obtain ⟨xs, e1, _, e2⟩ := seq_some h
    obtain ⟨bb, hsv⟩ : ∃ bb, ∀ δ, SV δ (.dat d) bb (xs.map .dat) := by
      cases d <;> first | cases e1 <;> exact ⟨_, fun δ => .dl⟩ | cases e1 <;> exact ⟨_, fun δ => .dt⟩ | cases e1
    refine J_one <| J_chain op_le op_le <| J_name 1 rfl <| J_callB call_len T.len <| JA_cons <| J_name 0 rfl <| JA_nil <| RC_len (hsv _) <| ?_
    rw [List.length_map]
    refine RJ_le ⟨_, rfl, fun h2 => ?_, fun h2 => ⟨[], List.nodup_nil, ?_⟩⟩
    · refine J_name 2 rfl <| RJ_le ⟨[], List.nodup_nil, ?_⟩
      exact fin_of q (by simp only [isRowD, isRow, h, e2, h2, Bool.true_and])
    · exact fin_of q (by simp only [isRowD, isRow, h, e2, h2, Bool.true_and, Bool.false_and])
  · exact ⟨[], List.nodup_nil, fin_of q (by simp only [isRowD, isRow, h, Bool.false_and])⟩
theorem scName : FnScope ["value", "sign"] ["value"] (defScope sName) := ⟨rfl, rfl, rfl, by decide +kernel, rfl, by decide +kernel, by decide +kernel⟩
/-- a comprehension over data that changes nothing -/
theorem bools_snoc {xs : List Rv} {g : Rv → Bool} {k : Nat} {d : Rv} (h : xs[k]? = some d) : ((xs.take (k + 1)).map g).map Rv.bool = ((xs.take k).map g).map Rv.bool ++ [.bool (g d)] := by
  have e : xs.take (k + 1) = xs.take k ++ [d] := by
    rw [List.take_succ, h]
    rfl
  rw [e, List.map_append, List.map_append]
  rfl
end
end K71
end

section
open PySem PySem.Spec PyProof.Rows L2 DL SH
/-! K71B: names, unlike ones, fixed, nodes, instructions. -/
namespace K71
abbrev sUnlike : Stmt := top 9
abbrev sFixed : Stmt := top 22
abbrev sNode : Stmt := top 35
abbrev sNodes : Stmt := top 36
abbrev sRegister : Stmt := top 37
abbrev sRegisters : Stmt := top 38
abbrev sMaking : Stmt := top 40
abbrev sInstr : Stmt := top 41
/-- on data -/
def onD (g : D → D) : Rv → Rv
  | .dat d => .dat (g d)
  | r => r
theorem pick_dat {g : D → D} {xs : List D} : pick (fun _ => true) (onD g) (xs.map .dat) = (xs.map g).map .dat := by
  rw [pick_all, List.map_map, List.map_map]
  rfl
theorem pick_bool {g : D → Bool} {xs : List D} : pick (fun _ => true) (onD fun d => .bool (g d)) (xs.map .dat) = (xs.map g).map Rv.bool := by
  rw [pick_dat, List.map_map, List.map_map]
  rfl
theorem all_id {xs : List D} {g : D → Bool} : (xs.map g).all id = xs.all g := by rw [List.all_map]; rfl
section
variable {P : Program} {w : World} {K : PySem.W.Frag} {mg : Str → Option Value} {base : Heap} {f : Addr} {fd : FuncData}
theorem ok_name (F : FnP K "is_name" sName f fd) (m : mg "is_name" = some (.ref f)) (T : Tx mg) (C : Tc mg) : CalName P w K mg base := by
  refine ⟨f, fd, fnG_of F scName (fun cdv A outer s H as Φ hr hs hl => ?_), m, F.kp, F.bindsN fun _ _ _ _ _ _ us hl => match us, hl with | [_], _ => rfl⟩
  obtain ⟨d, rfl, ok, q⟩ := hs
  obtain ⟨t1, C1⟩ := C.letters
  obtain ⟨t2, C2⟩ := C.mostN
  refine JSs_one <| JS_ret <| J_and <| isi1 "str" T.isi T.str <| J_name 0 rfl ⟨_, _, rfl, kb_str d, _, rfl, fun h => ?_, fun h => ⟨[], List.nodup_nil, fin_of q (by cases d <;> first | rfl | cases h)⟩⟩
  cases d with
  | str z =>
    have hz : z.length ≤ 1000 := (okD_str ok).1
    have hz2 : z.length ≤ sizeLine := Nat.le_trans hz (by decide)
    refine J_and <| J_chain op_le op_le <| J_int <| J_callB call_len T.len <| JA_cons <| J_name 0 rfl <| JA_nil <| RC_lenS hz2 <| RJ_le ⟨_, rfl, fun h1 => ?_, fun h1 => ⟨_, rfl, nofun, fun _ => ⟨[], List.nodup_nil, ?_⟩⟩⟩
    · refine J_gint C2 <| RJ_le ⟨_, rfl, fun h2 => ?_, fun h2 => ⟨[], List.nodup_nil, ?_⟩⟩
      · refine J_one <| J_callB (cr_all rfl) T.all <| JA_cons <| J_lcP rfl scName.nd (blkOk_by (own := [("sign", 1)]) (N := ["value", "sign"]) (sc := defScope sName) (by decide +kernel)) <| JI_str <| J_name 0 rfl ⟨z, rfl, hz2, fun _ => true, onD fun d => .bool (inS lettersS d), trivial, fun d hd Y hY => ?_, fun q' => JA_nil <| ?_⟩
        · obtain ⟨s0, H0, C0, cl, fp, rfl⟩ := hY
          obtain ⟨d', hd', rfl⟩ := List.mem_map.mp hd
          refine JG_name 1 scName.nd fun Y2 hY2 => JTs_nil ⟨rfl, rfl, fun _ Y3 hY3 => ?_⟩
          obtain ⟨s3, H3, C3, cl3, fp3, rfl⟩ := hY3
          exact J_cmp op_in_sign (by rfl) <| J_name 1 rfl <| J_gstr C1 <| RJ_inSign hd' ⟨rfl, rfl⟩
        · rw [pick_bool]
          refine RC_all (.ol 0 rfl) ⟨[], List.nodup_nil, fin_of q ?_⟩
          rw [all_id]
          simp only [isName, h1, h2, Bool.true_and]
      · exact fin_of q (by simp only [isName, h1, h2, Bool.true_and, Bool.false_and])
    · exact fin_of q (by simp only [isName, h1, Bool.false_and])
  | _ => cases h
/-- unlike texts -/
def spUnlike : Spc := fun as Φ => ∃ ss : List Str, as = ⟨[some (.list (ss.map .str))], []⟩ ∧ ss.Nodup ∧ ss.length ≤ 1000 ∧ Φ (.bool true) []
abbrev CalUnlike (P : Program) (w : World) (K : PySem.W.Frag) (mg : Str → Option Value) (base : Heap) : Prop := Cal P w K mg base "are_unlike" 1 ["some"] spUnlike
theorem scUnlike : FnScope ["some", "one"] ["some"] (defScope sUnlike) := ⟨rfl, rfl, rfl, by decide +kernel, rfl, by decide +kernel, by decide +kernel⟩
theorem putRk_new {kvs : List (Key × Rv)} {k : Key} {v : Rv} (h : k ∉ kvs.map (·.1)) : putRk kvs k v = kvs ++ [(k, v)] := by
  unfold putRk
  rw [if_neg]
  intro z
  obtain ⟨kv, h1, h2⟩ := List.any_eq_true.mp z
  exact h (List.mem_map.mpr ⟨kv, h1, of_decide_eq_true h2⟩)
theorem ok_unlike (F : FnP K "are_unlike" sUnlike f fd) (m : mg "are_unlike" = some (.ref f)) (T : Tx mg) : CalUnlike P w K mg base := by
  refine ⟨f, fd, fnG_of F scUnlike (fun cdv A outer s H as Φ hr hs hl => ?_), m, F.kp, F.bindsN fun _ _ _ _ _ _ us hl => match us, hl with | [_], _ => rfl⟩
  obtain ⟨ss, rfl, hn, hl1, q⟩ := hs
  refine JSs_one <| JS_ret <| J_cmp op_eq (by rfl) <| J_callB call_lenD T.len <| JA_cons <| J_dc rfl scUnlike.nd (blkOk_by (own := [("one", 1)]) (N := ["some", "one"]) (sc := defScope sUnlike) (by decide +kernel)) <| JI_dat <| J_name 0 rfl ⟨_, _, rfl, rfl,
    fun k acc δ2 => acc = (ss.take k).map (fun x => ((.inr x : Key), Rv.bool true)) ∧ δ2 = ⟨[some (.list (ss.map .str)), none], []⟩, ⟨rfl, rfl⟩, fun _ _ _ _ => trivial, ?_, ?_⟩
  · rintro k d acc _ hd ⟨rfl, rfl⟩ Y hY
    obtain ⟨s0, H0, C0, cl, fp, rfl⟩ := hY
    rw [List.map_map, List.getElem?_map] at hd
    cases e : ss[k]? with
    | none => rw [e] at hd; cases hd
    | some x =>
      rw [e] at hd
      cases hd
      refine JG_name 1 scUnlike.nd fun Y2 hY2 => JTs_nil ⟨fun _ Y3 hY3 => ?_, nofun⟩
      obtain ⟨s3, H3, C3, cl3, fp3, rfl⟩ := hY3
      refine J_name 1 rfl ⟨.inr x, rfl, fun Y4 hY4 => ?_⟩
      obtain ⟨s4, H4, C4, cl4, fp4, rfl⟩ := hY4
      refine J_bool ⟨?_, rfl⟩
      have et : ss.take (k + 1) = ss.take k ++ [x] := by
        rw [List.take_succ, e]
        rfl
      rw [et, List.map_append, putRk_new]
      · rfl
      · intro z
        rw [List.map_map] at z
        obtain ⟨y, h1, h2⟩ := List.mem_map.mp z
        cases h2
        rw [← List.take_append_drop k ss] at hn
        have hx : x ∈ ss.drop k := by
          have := (List.getElem?_eq_some_iff.mp e)
          obtain ⟨h3, h4⟩ := this
          rw [← h4]
          exact List.mem_drop_iff_getElem.mpr ⟨0, by omega, by simp⟩
        exact (List.nodup_append.mp hn).2.2 x h1 x hx rfl
  · rintro acc _ ⟨rfl, rfl⟩ _ p
    refine JA_nil <| RC_lenD 0 rfl <| J_callB call_len T.len <| JA_cons <| J_name 0 rfl <| JA_nil <| RC_len .dl <| ?_
    have e : ((((ss.take ((ss.map PyData.str).map Rv.dat).length).map fun x => ((Sum.inr x : Key), Rv.bool true)).length : Nat) : Int) = ((((ss.map PyData.str).map Rv.dat).length : Nat) : Int) := by simp
    rw [e]
    exact RJ_eqI ⟨[], List.nodup_nil, by
      rw [decide_eq_true rfl]
      exact q⟩
end
end K71
end

section
open PySem PySem.Spec PyProof.Rows L2 DL SH
/-! K71C: fixed, nodes, instructions. -/
namespace K71
mutual
def fixD : D → D
  | .list xs => .tuple (fixAll xs)
  | .tuple xs => .tuple (fixAll xs)
  | d => d
def fixAll : List D → List D
  | [] => []
  | x :: xs => fixD x :: fixAll xs
end
mutual
def dep : D → Nat
  | .list xs => depAll xs + 1
  | .tuple xs => depAll xs + 1
  | _ => 0
def depAll : List D → Nat
  | [] => 0
  | x :: xs => max (dep x) (depAll xs)
end
theorem fixAll_map : ∀ xs : List D, fixAll xs = xs.map fixD
  | [] => by simp [fixAll]
  | x :: xs => by rw [fixAll, fixAll_map xs]; rfl
theorem depAll_mem : ∀ {xs : List D} {x : D}, x ∈ xs → dep x ≤ depAll xs
  | y :: ys, x, h => by
    rw [depAll]
    cases h with
    | head => exact Nat.le_max_left _ _
    | tail _ h => exact Nat.le_trans (depAll_mem h) (Nat.le_max_right _ _)
theorem dep_seq {d : D} {xs : List D} (h : seqOf d = some xs) : dep d = depAll xs + 1 ∧ fixD d = .tuple (xs.map fixD) := by
  cases d with
  | list ys => cases h; exact ⟨by rw [dep], by rw [fixD, fixAll_map]⟩
  | tuple ys => cases h; exact ⟨by rw [dep], by rw [fixD, fixAll_map]⟩
  | _ => cases h
theorem fix_none {d : D} (h : seqB d = false) : fixD d = d := by
  cases d <;> first | (simp [seqB, isList, isTup] at h; done) | simp [fixD]
theorem sv_of {δ : S} {d : D} {xs : List D} (e : seqOf d = some xs) : ∃ bb, SV δ (.dat d) bb (xs.map .dat) := SV.d e
section
variable {P : Program} {w : World} {K : PySem.W.Frag} {mg : Str → Option Value} {base : Heap} {f : Addr} {fd : FuncData}
abbrev spFix (n : Nat) : Spc := sp1 (fun d => dep d ≤ n ∧ okD d = true) fixD
abbrev CalFix (P : Program) (w : World) (K : PySem.W.Frag) (mg : Str → Option Value) (base : Heap) (n : Nat) : Prop := Cal P w K mg base "fixed" (n + 1) ["value"] (spFix n)
theorem scFix : FnScope ["value", "part"] ["value"] (defScope sFixed) := ⟨rfl, rfl, rfl, by decide +kernel, rfl, by decide +kernel, by decide +kernel⟩
theorem ok_fix (F : FnP K "fixed" sFixed f fd) (m : mg "fixed" = some (.ref f)) (T : Tx mg) : ∀ n, CalFix P w K mg base n := by
  have bd : L2.Binds K fd ["value"] [] := F.bindsN fun _ _ _ _ _ _ us hl => match us, hl with | [_], _ => rfl
  intro n
  induction n with
  | zero =>
    refine ⟨f, fd, fnG_of F scFix (fun cdv A outer s H as Φ hr hs hl => ?_), m, F.kp, bd⟩
    obtain ⟨d, rfl, ⟨h0, ok⟩, q⟩ := hs
    refine JSs_cons <| JS_if <| JT_val <| isi2 "list" "tuple" T.isi T.list T.tuple <| J_name 0 rfl ⟨_, _, _, rfl, kb_list d, kb_tup d, _, rfl, fun h => ?_, fun h => ?_⟩
    · obtain ⟨xs, e, _⟩ := seq_some (show seqB d = true from h)
      have := (dep_seq e).1
      omega
    · exact JSs_nil <| JSs_one <| JS_ret <| J_name 0 rfl ⟨[], List.nodup_nil, fin_of q (fix_none h)⟩
  | succ n ih =>
    refine ⟨f, fd, fnG_of F scFix (fun cdv A outer s H as Φ hr hs hl => ?_), m, F.kp, bd⟩
    obtain ⟨d, rfl, ⟨h0, ok⟩, q⟩ := hs
    refine JSs_cons <| JS_if <| JT_val <| isi2 "list" "tuple" T.isi T.list T.tuple <| J_name 0 rfl ⟨_, _, _, rfl, kb_list d, kb_tup d, _, rfl, fun h => ?_, fun h => ?_⟩
    · obtain ⟨xs, e, _⟩ := seq_some (show seqB d = true from h)
      obtain ⟨e1, e2⟩ := dep_seq e
      have ok' := (okD_seq ok e).1
      refine JSs_one <| JS_ret <| J_callTy call_tuple_of T.tuple <| JA_cons <| J_lcP rfl scFix.nd (blkOk_by (own := [("part", 1)]) (N := ["value", "part"]) (sc := defScope sFixed) (by decide +kernel)) <| JI_dat <| J_name 0 rfl ⟨d, xs, rfl, e, fun _ => true, onD fixD, trivial, fun x hx Y hY => ?_, fun q' => JA_nil ?_⟩
      · obtain ⟨s0, H0, C0, cl, fp, rfl⟩ := hY
        obtain ⟨x', hx', rfl⟩ := List.mem_map.mp hx
        refine JG_name 1 scFix.nd fun Y2 hY2 => JTs_nil ⟨rfl, rfl, fun _ Y3 hY3 => ?_⟩
        obtain ⟨s3, H3, C3, cl3, fp3, rfl⟩ := hY3
        have := depAll_mem hx'
        exact J_c1 ih hr (JA_cons <| J_name 1 rfl <| JA_nil ⟨x', rfl, rfl, ⟨by omega, okAll_mem ok' hx'⟩, rfl, rfl⟩) (Nat.le_refl _)
      · rw [pick_dat]
        exact RC_tupleL (.ol 0 rfl) ⟨[], List.nodup_nil, fin_of q e2⟩
    · exact JSs_nil <| JSs_one <| JS_ret <| J_name 0 rfl ⟨[], List.nodup_nil, fin_of q (fix_none h)⟩
/-! ### nodes -/
def nodeD (x : Str) (n : Int) : D := .tuple [.str x, .int n, .int 0]
def nodeOk (d : D) : Prop := ∃ x n, d = nodeD x n ∧ isName (.str x) = true ∧ okD (.str x) = true ∧ 0 ≤ n ∧ n ≤ 9
def spNode : Spc := fun as Φ => ∃ d, as = ⟨[some (.dat d)], []⟩ ∧ nodeOk d ∧ Φ (.bool true) []
abbrev CalNode (P : Program) (w : World) (K : PySem.W.Frag) (mg : Str → Option Value) (base : Heap) : Prop := Cal P w K mg base "is_node" 3 ["value"] spNode
theorem isRow_tup {xs : List D} {l m : Int} (h1 : l ≤ (xs.length : Nat)) (h2 : ((xs.length : Nat) : Int) ≤ m) : isRow (.tuple xs) l m = true := by
  simp [isRow, seqB, isTup, lenD, h1, h2]
theorem isRow_lst {xs : List D} {l m : Int} (h1 : l ≤ (xs.length : Nat)) (h2 : ((xs.length : Nat) : Int) ≤ m) : isRow (.list xs) l m = true := by
  simp [isRow, seqB, isList, lenD, h1, h2]
theorem scNode : FnScope ["value"] ["value"] (defScope sNode) := ⟨rfl, rfl, rfl, by decide +kernel, rfl, by decide +kernel, by decide +kernel⟩
theorem hN {sp : Spc} {ps : List Str} {rs : List Rv} {δ : S} {Φ : Post} (hl : rs.length = ps.length) (h : sp ⟨rs.map some, []⟩ fun r ob' => ob' = [] ∧ Φ r δ) (mono : ∀ as Φ Ψ, (∀ r ob, Φ r ob → Ψ r ob) → sp as Φ → sp as Ψ) : Hand sp ps rs δ Φ := hand0 hl h mono
theorem ok_node (F : FnP K "is_node" sNode f fd) (m : mg "is_node" = some (.ref f)) (C : Tc mg) (c1 : CalRow P w K mg base) (c2 : CalName P w K mg base) (c3 : CalWithin P w K mg base) : CalNode P w K mg base := by
  refine ⟨f, fd, fnG_of F scNode (fun cdv A outer s H as Φ hr hs hl => ?_), m, F.kp, F.bindsN fun _ _ _ _ _ _ us hl => match us, hl with | [_], _ => rfl⟩
  obtain ⟨_, rfl, ⟨x, n, rfl, nm, ok, n0, n9⟩, q⟩ := hs
  obtain ⟨t1, C1⟩ := C.mc
  obtain ⟨t2, C2⟩ := C.mfi
  refine JSs_cons <| JS_if <| JT_w <| JW_or <| JT_not <| JT_val <| J_c3 c1 hr <| JA_cons <| J_name 0 rfl <| JA_cons <| J_int <| JA_cons <| J_int <| JA_nil ⟨_, _, _, rfl, rfl, ⟨_, _, rfl, rfl⟩, true, ?_, nofun, fun _ => ?_⟩
  · show Rv.bool (isRow (nodeD x n) 3 3) = _
    rw [nodeD, isRow_tup (by simp) (by simp)]
  refine JW_or1 <| JT_not <| JT_val <| J_c1 c2 hr <| JA_cons <| J_ix ix_seq <| J_name 0 rfl <| J_int <| RJ_ix (xs := [.str x, .int n, .int 0]) .dt rfl <| JA_nil ⟨_, rfl, rfl, ok, true, by rw [nm], nofun, fun _ => ?_⟩
  refine JSs_nil <| JSs_one <| JS_ret <| J_and <| J_c3 c3 hr <| JA_cons <| J_ix ix_seq <| J_name 0 rfl <| J_int <| RJ_ix (xs := [.str x, .int n, .int 0]) .dt rfl <| JA_cons <| J_int <| JA_cons <| J_gint C1 <| JA_nil ⟨_, _, _, rfl, rfl, ⟨_, _, _, rfl, rfl, rfl⟩, true, ?_, fun _ => ?_, nofun⟩
  · simp [isWD, n0, n9]
  exact J_one <| J_c3 c3 hr <| JA_cons <| J_ix ix_seq <| J_name 0 rfl <| J_int <| RJ_ix (xs := [.str x, .int n, .int 0]) .dt rfl <| JA_cons <| J_int <| JA_cons <| J_gint C2 <| JA_nil ⟨_, _, _, rfl, rfl, ⟨_, _, _, rfl, rfl, rfl⟩, [], List.nodup_nil, q⟩
end
end K71
end

section
open PySem PySem.Spec PyProof.Rows L2 DL SH
/-! K71D: instructions. -/
namespace K71
section
variable {X : Cx} {δ : S} {Φ : Post} {pos : Pos}
theorem J_gref {x : Str} {a : Addr} (hm : X.mg x = some (.ref a)) (q : Φ (.adr a) δ) (hg : Gl X x := by rfl) (hd : (x == ("__debug__" : Str)) = false := by decide) : J X (.Name x pos) δ Φ :=
  fun F σ G H Q r k => U_of (pe_glob hg hm (show RelV (.ref a) (.ref a) from rfl) hd) (k _ _ δ G H r (Same.refl G) .adr q)
theorem RJ_kdNotIn {L : Addr} {z : Str} {r : Option Value} (hr : PySem.W.nsIn X.K L z = some r) (q : Φ (.bool (!r.isSome)) δ) : RJ X (fun x y H Q => ∃ (z : Str) (r : Option Value), x = .str z ∧ y = .ref L ∧ PySem.W.nsIn X.K L z = some r ∧ Q (.bl (!r.isSome)) H) (.str z) (.adr L) δ Φ := fun F σ G H Q v u rl x y k => by
  obtain rfl := rv_str x
  obtain rfl := rv_adr y
  exact ⟨z, r, rfl, rfl, hr, k _ _ δ G H rl (Same.refl G) (.dat (.bl _)) q⟩
theorem RJ_kdIx {L : Addr} {z : Str} {n : Int} (hr : KDct X.K X.w L z (.int n)) (q : Φ (.int n) δ) : RJ X (rIxD X.K X.w) (.adr L) (.str z) δ Φ := fun F σ G H Q v u rl x y k => by
  obtain rfl := rv_adr x
  obtain rfl := rv_str y
  exact ⟨L, z, _, rfl, rfl, hr, k _ _ δ G H rl (Same.refl G) (.dat (.int _)) q⟩
end
/-- the dict LENGTHS of the module -/
structure Tl (K : PySem.W.Frag) (w : World) (mg : Str → Option Value) (L : Addr) : Prop where
  at_ : mg "LENGTHS" = some (.ref L)
  kd : ∃ es n, KDict K w L es n
  k4 : ∃ t, PySem.W.nsIn K L "make" = some (some (.int 4 t))
  k3 : ∃ t, PySem.W.nsIn K L "open" = some (some (.int 3 t))
  ke : ∃ t, PySem.W.nsIn K L "enter" = some (some (.int 2 t))
  kl : ∃ t, PySem.W.nsIn K L "leave" = some (some (.int 2 t))
  kg : ∃ t, PySem.W.nsIn K L "give" = some (some (.int 2 t))
def ndL (xs : List (Str × Int)) : List D := xs.map fun p => nodeD p.1 p.2
def spNodes : Spc := fun as Φ => ∃ xs : List (Str × Int), as = ⟨[some (.list (ndL xs))], []⟩ ∧ (∀ p ∈ xs, nodeOk (nodeD p.1 p.2)) ∧ (xs.map (·.1)).Nodup ∧ 1 ≤ xs.length ∧ xs.length ≤ 24 ∧ Φ (.bool true) []
def spReg : Spc := fun as Φ => ∃ r : Int, as = ⟨[some (.int r)], []⟩ ∧ 0 ≤ r ∧ r ≤ 31 ∧ Φ (.bool true) []
def spRegs : Spc := fun as Φ => as = ⟨[some (.list [])], []⟩ ∧ Φ (.bool true) []
def spMaking : Spc := fun as Φ => ∃ kn kvs r x n, as = ⟨[some (.adr kn), some (.tuple [.int r, .str x, .list []])], [(kn, .dk kvs)]⟩ ∧ 0 ≤ r ∧ r ≤ 31 ∧ valR kvs (Sum.inr x : Key) = some (.dat (nodeD x n)) ∧ Φ (.bool true) [(kn, .dk kvs)]
section
variable {P : Program} {w : World} {K : PySem.W.Frag} {mg : Str → Option Value} {base : Heap} {f : Addr} {fd : FuncData}
abbrev CalNodes (P : Program) (w : World) (K : PySem.W.Frag) (mg : Str → Option Value) (base : Heap) : Prop := Cal P w K mg base "are_nodes" 4 ["value"] spNodes
abbrev CalReg (P : Program) (w : World) (K : PySem.W.Frag) (mg : Str → Option Value) (base : Heap) : Prop := Cal P w K mg base "is_register" 3 ["value"] spReg
abbrev CalRegs (P : Program) (w : World) (K : PySem.W.Frag) (mg : Str → Option Value) (base : Heap) : Prop := Cal P w K mg base "are_registers" 4 ["value"] spRegs
abbrev CalMaking (P : Program) (w : World) (K : PySem.W.Frag) (mg : Str → Option Value) (base : Heap) : Prop := Cal P w K mg base "is_making" 5 ["known", "value"] spMaking
theorem scNodes : FnScope ["value", "one"] ["value"] (defScope sNodes) := ⟨rfl, rfl, rfl, by decide +kernel, rfl, by decide +kernel, by decide +kernel⟩
theorem all_true {α : Type} (xs : List α) : (xs.map fun _ => true).all id = true := by simp
theorem ok_nodes (F : FnP K "are_nodes" sNodes f fd) (m : mg "are_nodes" = some (.ref f)) (T : Tx mg) (C : Tc mg) (c1 : CalRow P w K mg base) (c2 : CalNode P w K mg base) (c3 : CalUnlike P w K mg base) : CalNodes P w K mg base := by
  refine ⟨f, fd, fnG_of F scNodes (fun cdv A outer s H as Φ hr hs hl => ?_), m, F.kp, F.bindsN fun _ _ _ _ _ _ us hl => match us, hl with | [_], _ => rfl⟩
  obtain ⟨xs, rfl, hn, nd, l1, l2, q⟩ := hs
  obtain ⟨t1, C1⟩ := C.mn
  have hlen : (ndL xs).length = xs.length := by simp [ndL]
  refine JSs_cons <| JS_if <| JT_w <| JW_or <| JT_not <| JT_val <| J_c3 c1 hr <| JA_cons <| J_name 0 rfl <| JA_cons <| J_int <| JA_cons <| J_gint C1 <| JA_nil ⟨_, _, _, rfl, rfl, ⟨_, _, rfl, rfl⟩, true, ?_, nofun, fun _ => ?_⟩
  · show Rv.bool (isRow (.list (ndL xs)) 1 24) = _
    rw [isRow_lst (by omega) (by omega)]
  refine JW_or1 <| JT_not <| JT_val <| J_callB (cr_all rfl) T.all <| JA_cons <| J_lcP rfl scNodes.nd (blkOk_by (own := [("one", 1)]) (N := ["value", "one"]) (sc := defScope sNodes) (by decide +kernel)) <| JI_dat <| J_name 0 rfl ⟨_, _, rfl, rfl, fun _ => true, onD fun d => .bool true, trivial, fun d hd Y hY => ?_, fun q' => JA_nil ?_⟩
  · obtain ⟨s0, H0, C0, cl, fp, rfl⟩ := hY
    obtain ⟨d', hd', rfl⟩ := List.mem_map.mp hd
    obtain ⟨p, hp, rfl⟩ := List.mem_map.mp hd'
    refine JG_name 1 scNodes.nd fun Y2 hY2 => JTs_nil ⟨rfl, rfl, fun _ Y3 hY3 => ?_⟩
    obtain ⟨s3, H3, C3, cl3, fp3, rfl⟩ := hY3
    exact J_cH c2 hr (JA_cons <| J_name 1 rfl <| JA_nil <| hand0 rfl ⟨_, rfl, hn p hp, rfl, rfl, rfl⟩ fun as Φ Ψ i ⟨d, a, b, c⟩ => ⟨d, a, b, i _ _ c⟩)
  rw [pick_bool]
  refine RC_all (.ol 0 rfl) ⟨true, by rw [all_true], nofun, fun _ => JSs_nil <| JSs_pick [] List.nodup_nil <| JSs_one <| JS_ret ?_⟩
  refine J_cH c3 hr <| JA_cons <| J_frz <| J_lcP rfl scNodes.nd (blkOk_by (own := [("one", 1)]) (N := ["value", "one"]) (sc := defScope sNodes) (by decide +kernel)) <| JI_dat <| J_name 0 rfl ⟨_, _, rfl, rfl, fun _ => true, onD fun d => match d with
    | .tuple (x :: _) => x
    | d => d, trivial, fun d hd Y hY => ?_, fun q' => ?_⟩
  · obtain ⟨s0, H0, C0, cl, fp, rfl⟩ := hY
    obtain ⟨d', hd', rfl⟩ := List.mem_map.mp hd
    obtain ⟨p, hp, rfl⟩ := List.mem_map.mp hd'
    refine JG_name 1 scNodes.nd fun Y2 hY2 => JTs_nil ⟨rfl, rfl, fun _ Y3 hY3 => ?_⟩
    obtain ⟨s3, H3, C3, cl3, fp3, rfl⟩ := hY3
    exact J_ix ix_seq <| J_name 1 rfl <| J_int <| RJ_ix (xs := [.str p.1, .int p.2, .int 0]) .dt rfl ⟨rfl, rfl⟩
  · rw [pick_dat]
    refine ⟨q', 0, (xs.map (·.1)).map .str, rfl, ?_, JA_nil ?_⟩
    · show some (q', MO.lst _) = some (q', MO.lst _)
      have e : (ndL xs).map (fun d => match d with
        | .tuple (x :: _) => x
        | d => d) = (xs.map (·.1)).map PyData.str := by
        unfold ndL
        rw [List.map_map, List.map_map]
        rfl
      rw [e]
    · exact hand0 rfl ⟨_, rfl, nd, by rw [List.length_map]; omega, rfl, [], List.nodup_nil, q⟩ fun as Φ Ψ i ⟨d, a, b, c, e⟩ => ⟨d, a, b, c, i _ _ e⟩
theorem scReg : FnScope ["value"] ["value"] (defScope sRegister) := ⟨rfl, rfl, rfl, by decide +kernel, rfl, by decide +kernel, by decide +kernel⟩
theorem ok_reg (F : FnP K "is_register" sRegister f fd) (m : mg "is_register" = some (.ref f)) (C : Tc mg) (c1 : CalWithin P w K mg base) : CalReg P w K mg base := by
  refine ⟨f, fd, fnG_of F scReg (fun cdv A outer s H as Φ hr hs hl => ?_), m, F.kp, F.bindsN fun _ _ _ _ _ _ us hl => match us, hl with | [_], _ => rfl⟩
  obtain ⟨r, rfl, r0, r1, q⟩ := hs
  obtain ⟨t1, C1⟩ := C.mr
  refine JSs_one <| JS_ret <| J_c3 c1 hr <| JA_cons <| J_name 0 rfl <| JA_cons <| J_int <| JA_cons <| J_gint C1 <| JA_nil ⟨_, _, _, rfl, rfl, ⟨_, _, _, rfl, rfl, rfl⟩, [], List.nodup_nil, ?_⟩
  exact fin_of q (by simp [isWD, r0, r1])
theorem scRegs : FnScope ["value", "one"] ["value"] (defScope sRegisters) := ⟨rfl, rfl, rfl, by decide +kernel, rfl, by decide +kernel, by decide +kernel⟩
theorem ok_regs (F : FnP K "are_registers" sRegisters f fd) (m : mg "are_registers" = some (.ref f)) (T : Tx mg) (C : Tc mg) (c1 : CalRow P w K mg base) (c3 : CalUnlike P w K mg base) : CalRegs P w K mg base := by
  refine ⟨f, fd, fnG_of F scRegs (fun cdv A outer s H as Φ hr hs hl => ?_), m, F.kp, F.bindsN fun _ _ _ _ _ _ us hl => match us, hl with | [_], _ => rfl⟩
  obtain ⟨rfl, q⟩ := hs
  obtain ⟨t1, C1⟩ := C.mfi
  refine JSs_cons <| JS_if <| JT_w <| JW_or <| JT_not <| JT_val <| J_c3 c1 hr <| JA_cons <| J_name 0 rfl <| JA_cons <| J_int <| JA_cons <| J_gint C1 <| JA_nil ⟨_, _, _, rfl, rfl, ⟨_, _, rfl, rfl⟩, true, ?_, nofun, fun _ => ?_⟩
  · show Rv.bool (isRow (.list []) 0 4) = _
    rw [isRow_lst (by simp) (by simp)]
  refine JW_or1 <| JT_not <| JT_val <| J_callB (cr_all rfl) T.all <| JA_cons <| J_lcP rfl scRegs.nd (blkOk_by (own := [("one", 1)]) (N := ["value", "one"]) (sc := defScope sRegisters) (by decide +kernel)) <| JI_dat <| J_name 0 rfl ⟨_, _, rfl, rfl, fun _ => true, fun r => r, trivial, fun d hd Y hY => ?_, fun q' => JA_nil ?_⟩
  · cases hd
  refine RC_all (bs := []) (.ol 0 rfl) ⟨true, rfl, nofun, fun _ => JSs_nil <| JSs_pick [] List.nodup_nil <| JSs_one <| JS_ret ?_⟩
  exact J_cH c3 hr <| JA_cons <| J_name 0 rfl <| JA_nil <| hand0 rfl ⟨[], rfl, List.nodup_nil, by simp, rfl, [], List.nodup_nil, q⟩ fun as Φ Ψ i ⟨d, a, b, c, e⟩ => ⟨d, a, b, c, i _ _ e⟩
theorem scMaking : FnScope ["known", "value"] ["known", "value"] (defScope sMaking) := ⟨rfl, rfl, rfl, by decide +kernel, rfl, by decide +kernel, by decide +kernel⟩
theorem ok_making (F : FnP K "is_making" sMaking f fd) (m : mg "is_making" = some (.ref f)) (T : Tx mg) (c1 : CalReg P w K mg base) (c2 : CalRegs P w K mg base) : CalMaking P w K mg base := by
  refine ⟨f, fd, fnG_of F scMaking (fun cdv A outer s H as Φ hr hs hl => ?_), m, F.kp, F.bindsN fun _ _ _ _ _ _ us hl => match us, hl with | [_, _], _ => rfl⟩
  obtain ⟨kn, kvs, r, x, n, rfl, r0, r1, hv, q⟩ := hs
  have hu := hu_of hr.room
  refine JSs_cons <| JS_if <| JT_w <| JW_or <| JT_not <| JT_val <| J_cH c1 hr <| JA_cons <| J_ix ix_seq <| J_name 1 rfl <| J_int <| RJ_ix (xs := [.int r, .str x, .list []]) .dt rfl <| JA_nil <| hand0 rfl ⟨r, rfl, r0, r1, rfl, true, rfl, nofun, fun _ => ?_⟩ fun as Φ Ψ i ⟨d, a, b, c, e⟩ => ⟨d, a, b, c, i _ _ e⟩
  refine JW_or <| JT_not <| JT_val <| isi1 "str" T.isi T.str <| J_ix ix_seq <| J_name 1 rfl <| J_int <| RJ_ix (xs := [.int r, .str x, .list []]) .dt rfl ⟨_, _, rfl, kb_str _, true, rfl, nofun, fun _ => ?_⟩
  refine JW_or1 <| JT_dnotin hu <| J_ix ix_seq <| J_name 1 rfl <| J_int <| RJ_ix (xs := [.int r, .str x, .list []]) .dt rfl <| J_name 0 rfl ⟨kn, kvs, .inr x, 0, rfl, rfl, rfl, ?_, fun _ => ?_⟩
  · rw [hv]
    nofun
  refine JSs_nil <| JSs_one <| JS_ret <| J_and <| J_cH c2 hr <| JA_cons <| J_ix ix_seq <| J_name 1 rfl <| J_int <| RJ_ix (xs := [.int r, .str x, .list []]) .dt rfl <| JA_nil <| hand0 rfl ⟨rfl, rfl, true, rfl, fun _ => ?_, nofun⟩ fun as Φ Ψ i ⟨a, c⟩ => ⟨a, i _ _ c⟩
  refine J_one <| J_cmp op_eq (by rfl) <| J_callB call_len T.len <| JA_cons <| J_ix ix_seq <| J_name 1 rfl <| J_int <| RJ_ix (xs := [.int r, .str x, .list []]) .dt rfl <| JA_nil <| RC_len .dl <| J_ix ix_seq <| J_dget hu <| J_name 0 rfl <| J_ix ix_seq <| J_name 1 rfl <| J_int <| RJ_ix (xs := [.int r, .str x, .list []]) .dt rfl ⟨kn, kvs, .inr x, _, 0, rfl, rfl, rfl, hv, J_int <| RJ_ix (xs := [.str x, .int n, .int 0]) .dt rfl <| RJ_eqI ⟨[0], by decide, q⟩⟩
end
end K71
end

section
open PySem PySem.Spec PyProof.Rows L2 DL SH
/-! K71E: instructions, codes. -/
namespace K71
def instD (x : Str) (tl : List D) : D := .tuple (.str x :: tl)
/-- the instructions of this law -/
inductive InsOk (kvs : List (Key × Rv)) : D → Prop
  | make (r : Int) (x : Str) (n : Int) : 0 ≤ r → r ≤ 31 → valR kvs (Sum.inr x : Key) = some (.dat (nodeD x n)) → InsOk kvs (instD "make" [.int r, .str x, .list []])
  | opn (r : Int) : 0 ≤ r → r ≤ 31 → InsOk kvs (instD "open" [.int r, .list []])
  | enter (c : Int) : 0 ≤ c → c ≤ 18 → InsOk kvs (instD "enter" [.int c])
  | leave (c : Int) : 0 ≤ c → c ≤ 18 → InsOk kvs (instD "leave" [.int c])
  | give (r : Int) : 0 ≤ r → r ≤ 31 → InsOk kvs (instD "give" [.int r])
def spInstr : Spc := fun as Φ => ∃ kn kvs many d, as = ⟨[some (.adr kn), some (.int many), some (.dat d)], [(kn, .dk kvs)]⟩ ∧ InsOk kvs d ∧ Φ (.bool true) [(kn, .dk kvs)]
section
variable {P : Program} {w : World} {K : PySem.W.Frag} {mg : Str → Option Value} {base : Heap} {f : Addr} {fd : FuncData}
abbrev CalInstr (P : Program) (w : World) (K : PySem.W.Frag) (mg : Str → Option Value) (base : Heap) : Prop := Cal P w K mg base "is_instruction" 6 ["known", "many", "value"] spInstr
theorem scInstr : FnScope ["known", "many", "value", "word", "rest"] ["known", "many", "value"] (defScope sInstr) := ⟨rfl, rfl, rfl, by decide +kernel, rfl, by decide +kernel, by decide +kernel⟩
theorem at0 {r : Rv} {rs : List Rv} : atI (r :: rs) 0 = some r := by
  have : ((0 : Int) < (rs.length : Int) + 1) := by omega
  simp [atI, ixN, this]
theorem eqv_strs (a b : Str) : PyData.eqv (.str a) (.str b) = decide (a = b) := eqv_str a b
theorem ok_instr {L : Addr} (F : FnP K "is_instruction" sInstr f fd) (m : mg "is_instruction" = some (.ref f)) (T : Tx mg) (C : Tc mg) (TL : Tl K w mg L) (c1 : CalRow P w K mg base) (c2 : CalWithin P w K mg base) (c3 : CalReg P w K mg base) (c4 : CalRegs P w K mg base) (c5 : CalMaking P w K mg base) : CalInstr P w K mg base := by
  refine ⟨f, fd, fnG_of F scInstr (fun cdv A outer s H as Φ hr hs hl => ?_), m, F.kp, F.bindsN fun _ _ _ _ _ _ us hl => match us, hl with | [_, _, _], _ => rfl⟩
  obtain ⟨kn, kvs, many, d, rfl, hd, q⟩ := hs
  have hu := hu_of hr.room
  obtain ⟨t1, C1⟩ := C.en
  obtain ⟨t2, C2⟩ := C.lv
  obtain ⟨t3, C3⟩ := C.mf
  obtain ⟨t4, C4⟩ := C.mt
  obtain ⟨t5, C5⟩ := C.op
  obtain ⟨t6, C6⟩ := C.mk_
  obtain ⟨t7, C7⟩ := C.cl
  obtain ⟨t8, C8⟩ := C.gv
  obtain ⟨es, nn, KD⟩ := TL.kd
  have pre : ∀ (x : Str) (tl : List PyData), 1 ≤ tl.length → tl.length ≤ 3 → (∃ t, PySem.W.nsIn K L x = some (some (.int ((tl.length : Nat) + 1 : Int) t))) → 
      JSs (bodyX P w K mg base ["known", "many", "value", "word", "rest"] "is_instruction" (defScope sInstr) f cdv A outer s H) ((defBody sInstr).drop 3) ⟨[some (.adr kn), some (.int many), some (.dat (instD x tl)), some (.str x), some (.tuple tl)], [(kn, .dk kvs)]⟩ (outE Φ) →
      JSs (bodyX P w K mg base ["known", "many", "value", "word", "rest"] "is_instruction" (defScope sInstr) f cdv A outer s H) (defBody sInstr) ⟨[some (.adr kn), some (.int many), some (.dat (instD x tl)), none, none], [(kn, .dk kvs)]⟩ (outE Φ) := by
    intro x tl l1 l2 ⟨t, hk⟩ h
    refine JSs_cons <| JS_if <| JT_w <| JW_or <| JT_not <| JT_val <| J_c3 c1 hr <| JA_cons <| J_name 2 rfl <| JA_cons <| J_int <| JA_cons <| J_int <| JA_nil ⟨_, _, _, rfl, rfl, ⟨_, _, rfl, rfl⟩, true, ?_, nofun, fun _ => ?_⟩
    · show Rv.bool (isRow (instD x tl) 2 4) = _
      rw [instD, isRow_tup (by simp; omega) (by simp; omega)]
    refine JW_or <| JT_not <| JT_val <| isi1 "str" T.isi T.str <| J_ix ix_seq <| J_name 2 rfl <| J_int <| RJ_ix (xs := .str x :: tl.map .dat) .dt at0 ⟨.str x, true, rfl, kb_str (.str x), true, rfl, nofun, fun _ => ?_⟩
    refine JW_or1 <| JT_cmp (op_notIn_kd KD) (by rfl) <| J_ix ix_seq <| J_name 2 rfl <| J_int <| RJ_ix (xs := .str x :: tl.map .dat) .dt at0 <| J_gref TL.at_ <| RJ_kdNotIn hk ⟨false, rfl, nofun, fun _ => JSs_nil ?_⟩
    refine JSs_cons <| JS_par 3 4 rfl scInstr.nd <| JA_cons <| J_ix ix_seq <| J_name 2 rfl <| J_int <| RJ_ix (xs := .str x :: tl.map .dat) .dt at0 <| JA_cons <| J_sliceT <| J_name 2 rfl <| JP_some <| J_int ⟨1, rfl, JP_none ⟨.str x :: tl, rfl, ?_, ?_⟩⟩
    · intro z
      have : HT.sIx (PyData.str x :: tl).length 0 (some 1) = min 1 (PyData.str x :: tl).length := HT.sIx_nat _ _ 1
      rw [this] at z
      have := z.1
      simp at this
    have ecut : cutR (PyData.str x :: tl) (some 1) none = tl := by
      unfold cutR
      have e1 : HT.sIx (PyData.str x :: tl).length 0 (some 1) = 1 := by
        have : HT.sIx (PyData.str x :: tl).length 0 (some 1) = min 1 (PyData.str x :: tl).length := HT.sIx_nat _ _ 1
        rw [this]
        simp
      have e2 : HT.sIx (PyData.str x :: tl).length (PyData.str x :: tl).length none = (PyData.str x :: tl).length := rfl
      rw [e1, e2]
      simp
    rw [ecut]
    refine JA_nil ⟨_, _, rfl, ?_⟩
    refine JSs_cons <| JS_if <| JT_cmp op_ne (by rfl) <| J_callB call_len T.len <| JA_cons <| J_name 2 rfl <| JA_nil <| RC_len .dt <| J_ix ix_kdict <| J_gref TL.at_ <| J_name 3 rfl <| RJ_kdIx ⟨_, _, _, KD.at_, KD.lit, hk, ⟨_, rfl⟩⟩ <| RJ_neI ⟨false, ?_, nofun, fun _ => JSs_nil h⟩
    simp
  have wn : ∀ (x a b : Str) (Ψ : Bool → S → Prop) (δ : S), (decide (x = a) || decide (x = b)) = false → True := fun _ _ _ _ _ _ => trivial
  cases hd with
  | enter c h0 h1 =>
    refine pre _ _ (by simp) (by simp) TL.ke ?_
    refine JSs_cons <| JS_if <| JT_cmp op_in_seq (by rfl) <| J_name 3 rfl <| J_tup <| JA_cons <| J_gstr C1 <| JA_cons <| J_gstr C2 <| JA_nil ⟨[.str "enter", .str "leave"], rfl, rfl, RJ_in .dt rfl rfl ⟨true, congrArg Rv.bool (by decide +kernel), fun _ => ?_, nofun⟩⟩
    exact JSs_one <| JS_ret <| J_c3 c2 hr <| JA_cons <| J_ix ix_seq <| J_name 4 rfl <| J_int <| RJ_ix (xs := [.int c]) .dt rfl <| JA_cons <| J_int <| JA_cons <| J_gint C3 <| JA_nil ⟨_, _, _, rfl, rfl, ⟨_, _, _, rfl, rfl, rfl⟩, [0], by decide, fin_of q (by simp [isWD, h0, h1])⟩
  | leave c h0 h1 =>
    refine pre _ _ (by simp) (by simp) TL.kl ?_
    refine JSs_cons <| JS_if <| JT_cmp op_in_seq (by rfl) <| J_name 3 rfl <| J_tup <| JA_cons <| J_gstr C1 <| JA_cons <| J_gstr C2 <| JA_nil ⟨[.str "enter", .str "leave"], rfl, rfl, RJ_in .dt rfl rfl ⟨true, congrArg Rv.bool (by decide +kernel), fun _ => ?_, nofun⟩⟩
    exact JSs_one <| JS_ret <| J_c3 c2 hr <| JA_cons <| J_ix ix_seq <| J_name 4 rfl <| J_int <| RJ_ix (xs := [.int c]) .dt rfl <| JA_cons <| J_int <| JA_cons <| J_gint C3 <| JA_nil ⟨_, _, _, rfl, rfl, ⟨_, _, _, rfl, rfl, rfl⟩, [0], by decide, fin_of q (by simp [isWD, h0, h1])⟩
  | opn r h0 h1 =>
    refine pre _ _ (by simp) (by simp) TL.k3 ?_
    refine JSs_cons <| JS_if <| JT_cmp op_in_seq (by rfl) <| J_name 3 rfl <| J_tup <| JA_cons <| J_gstr C1 <| JA_cons <| J_gstr C2 <| JA_nil ⟨[.str "enter", .str "leave"], rfl, rfl, RJ_in .dt rfl rfl ⟨false, congrArg Rv.bool (by decide +kernel), nofun, fun _ => JSs_nil ?_⟩⟩
    refine JSs_cons <| JS_if <| JT_cmp op_eq (by rfl) <| J_name 3 rfl <| J_gstr C4 <| RJ_eqS ⟨false, congrArg Rv.bool (by decide +kernel), nofun, fun _ => JSs_nil ?_⟩
    refine JSs_cons <| JS_if <| JT_cmp op_eq (by rfl) <| J_name 3 rfl <| J_gstr C5 <| RJ_eqS ⟨true, congrArg Rv.bool (by decide +kernel), fun _ => ?_, nofun⟩
    refine JSs_one <| JS_ret <| J_and <| J_cH c3 hr <| JA_cons <| J_ix ix_seq <| J_name 4 rfl <| J_int <| RJ_ix (xs := [.int r, .list []]) .dt rfl <| JA_nil <| hand0 rfl ⟨r, rfl, h0, h1, rfl, true, rfl, fun _ => ?_, nofun⟩ fun as Φ Ψ i ⟨d, a, b, c, e⟩ => ⟨d, a, b, c, i _ _ e⟩
    exact J_one <| J_cH c4 hr <| JA_cons <| J_ix ix_seq <| J_name 4 rfl <| J_int <| RJ_ix (xs := [.int r, .list []]) .dt rfl <| JA_nil <| hand0 rfl ⟨rfl, rfl, [0], by decide, q⟩ fun as Φ Ψ i ⟨a, c⟩ => ⟨a, i _ _ c⟩
  | make r x n h0 h1 hv =>
    refine pre _ _ (by simp) (by simp) TL.k4 ?_
    refine JSs_cons <| JS_if <| JT_cmp op_in_seq (by rfl) <| J_name 3 rfl <| J_tup <| JA_cons <| J_gstr C1 <| JA_cons <| J_gstr C2 <| JA_nil ⟨[.str "enter", .str "leave"], rfl, rfl, RJ_in .dt rfl rfl ⟨false, congrArg Rv.bool (by decide +kernel), nofun, fun _ => JSs_nil ?_⟩⟩
    refine JSs_cons <| JS_if <| JT_cmp op_eq (by rfl) <| J_name 3 rfl <| J_gstr C4 <| RJ_eqS ⟨false, congrArg Rv.bool (by decide +kernel), nofun, fun _ => JSs_nil ?_⟩
    refine JSs_cons <| JS_if <| JT_cmp op_eq (by rfl) <| J_name 3 rfl <| J_gstr C5 <| RJ_eqS ⟨false, congrArg Rv.bool (by decide +kernel), nofun, fun _ => JSs_nil ?_⟩
    refine JSs_cons <| JS_if <| JT_cmp op_eq (by rfl) <| J_name 3 rfl <| J_gstr C6 <| RJ_eqS ⟨true, congrArg Rv.bool (by decide +kernel), fun _ => ?_, nofun⟩
    exact JSs_one <| JS_ret <| J_cH c5 hr <| JA_cons <| J_name 0 rfl <| JA_cons <| J_name 4 rfl <| JA_nil ⟨[0], by decide, by simp, rfl, kn, kvs, r, x, n, rfl, h0, h1, hv, by simp, rfl, [0], by decide, q⟩
  | give r h0 h1 =>
    refine pre _ _ (by simp) (by simp) TL.kg ?_
    refine JSs_cons <| JS_if <| JT_cmp op_in_seq (by rfl) <| J_name 3 rfl <| J_tup <| JA_cons <| J_gstr C1 <| JA_cons <| J_gstr C2 <| JA_nil ⟨[.str "enter", .str "leave"], rfl, rfl, RJ_in .dt rfl rfl ⟨false, congrArg Rv.bool (by decide +kernel), nofun, fun _ => JSs_nil ?_⟩⟩
    refine JSs_cons <| JS_if <| JT_cmp op_eq (by rfl) <| J_name 3 rfl <| J_gstr C4 <| RJ_eqS ⟨false, congrArg Rv.bool (by decide +kernel), nofun, fun _ => JSs_nil ?_⟩
    refine JSs_cons <| JS_if <| JT_cmp op_eq (by rfl) <| J_name 3 rfl <| J_gstr C5 <| RJ_eqS ⟨false, congrArg Rv.bool (by decide +kernel), nofun, fun _ => JSs_nil ?_⟩
    refine JSs_cons <| JS_if <| JT_cmp op_eq (by rfl) <| J_name 3 rfl <| J_gstr C6 <| RJ_eqS ⟨false, congrArg Rv.bool (by decide +kernel), nofun, fun _ => JSs_nil ?_⟩
    refine JSs_cons <| JS_if <| JT_cmp op_eq (by rfl) <| J_name 3 rfl <| J_gstr C7 <| RJ_eqS ⟨false, congrArg Rv.bool (by decide +kernel), nofun, fun _ => JSs_nil ?_⟩
    refine JSs_cons <| JS_if <| JT_cmp op_eq (by rfl) <| J_name 3 rfl <| J_gstr C8 <| RJ_eqS ⟨true, congrArg Rv.bool (by decide +kernel), fun _ => ?_, nofun⟩
    exact JSs_one <| JS_ret <| J_cH c3 hr <| JA_cons <| J_ix ix_seq <| J_name 4 rfl <| J_int <| RJ_ix (xs := [.int r]) .dt rfl <| JA_nil <| hand0 rfl ⟨r, rfl, h0, h1, rfl, [0], by decide, q⟩ fun as Φ Ψ i ⟨d, a, b, c, e⟩ => ⟨d, a, b, c, i _ _ e⟩
end
end K71
end

section
open PySem PySem.Spec PyProof.Rows L2 DL SH
/-! K71F: codes. -/
namespace K71
abbrev MethP (K : PySem.W.Frag) (x q : Str) (st : Stmt) (f : Addr) (fd : FuncData) : Prop := FunD K x q (defArgs st) (defBody st) (defScope st) [] [] f fd
abbrev sCodeInit : Stmt := inClass (top 42) 0
abbrev sNeedCode : Stmt := top 43
def knownR (xs : List (Str × Int)) : List (Key × Rv) := xs.map fun p => ((Sum.inr p.1 : Key), Rv.dat (nodeD p.1 p.2))
/-- a class's facts: fields of ours are no attributes of it -/
structure ClC (K : PySem.W.Frag) (C : Addr) (fs : List Str) : Prop where
  cls : Cls K C
  no : ∀ f ∈ fs, NoAttr K C f
def codeO (C dx kn : Addr) (xs : List (Str × Int)) (ins : List D) : MO := .ins C dx [("nodes", .tuple (ndL xs)), ("known", .adr kn), ("instructions", .tuple (ins.map fixD)), ("start", .int 0)]
def spCodeInit (C : Addr) : Spc := fun as Φ => ∃ me dx xs ins, as = ⟨[some (.adr me), some (.list (ndL xs)), some (.list ins), some (.int 0)], [(me, .ins C dx [])]⟩ ∧ (∀ p ∈ xs, nodeOk (nodeD p.1 p.2)) ∧ (xs.map (·.1)).Nodup ∧ 1 ≤ xs.length ∧ xs.length ≤ 24 ∧
  (∀ d ∈ ins, InsOk (knownR xs) d) ∧ 1 ≤ ins.length ∧ ins.length ≤ 1000 ∧ ∀ kn, Φ .none [(me, codeO C dx kn xs ins), (kn, .dk (knownR xs))]
section
variable {P : Program} {w : World} {K : PySem.W.Frag} {mg : Str → Option Value} {base : Heap} {f : Addr} {fd : FuncData} {C : Addr}
theorem scCodeInit : FnScope ["self", "nodes", "instructions", "start", "one", "at"] ["self", "nodes", "instructions", "start"] (defScope sCodeInit) := ⟨rfl, rfl, rfl, by decide +kernel, rfl, by decide +kernel, by decide +kernel⟩
theorem scNeedCode : FnScope ["value"] ["value"] (defScope sNeedCode) := ⟨rfl, rfl, rfl, by decide +kernel, rfl, by decide +kernel, by decide +kernel⟩
theorem valR_mem {κ : Type} [DecidableEq κ] {kvs : List (κ × Rv)} {k : κ} {r : Rv} (h : valR kvs k = some r) : (k, r) ∈ kvs := by
  unfold valR at h
  obtain ⟨p, h1, h2⟩ := Option.map_eq_some_iff.mp h
  have h3 := List.find?_some h1
  have h4 := List.mem_of_find?_eq_some h1
  simp only [decide_eq_true_eq] at h3
  subst h3 h2
  exact h4
theorem known_mem {xs : List (Str × Int)} {x : Str} {d : D} (h : valR (knownR xs) (Sum.inr x : Key) = some (.dat d)) : ∃ n, (x, n) ∈ xs ∧ d = nodeD x n := by
  have h := valR_mem h
  unfold knownR at h
  obtain ⟨p, h1, h2⟩ := List.mem_map.mp h
  simp only [Prod.mk.injEq, Rv.dat.injEq, Sum.inr.injEq] at h2
  obtain ⟨h2, h3⟩ := h2
  subst h2 h3
  exact ⟨p.2, h1, rfl⟩
theorem okS (z : Str) (h : (decide (z.length ≤ 1000) && PyData.strOk z) = true) : okD (.str z) = true := by rw [okD]; exact h
theorem ins_ok {xs : List (Str × Int)} (hn : ∀ p ∈ xs, nodeOk (nodeD p.1 p.2)) {d : D} (h : InsOk (knownR xs) d) : okD d = true ∧ dep d ≤ 2 := by
  cases h with
  | make r x n h0 h1 hv =>
    obtain ⟨n', hm, _⟩ := known_mem hv
    obtain ⟨x', n2, e, _, ok, _⟩ := hn _ hm
    have ex : x = x' := by
      simp only [nodeD, PyData.tuple.injEq, List.cons.injEq, PyData.str.injEq] at e
      exact e.1
    subst ex
    refine ⟨?_, by simp [instD, dep, depAll]⟩
    have o1 : okD (.str "make") = true := okS _ (by decide +kernel)
    simp [instD, okD, okAll, ok, o1] at o1 ok ⊢
    simp [o1, ok]
  | opn r h0 h1 =>
    refine ⟨?_, by simp [instD, dep, depAll]⟩
    have o1 : okD (.str "open") = true := okS _ (by decide +kernel)
    simp [instD, okD, okAll] at o1 ⊢
    exact o1
  | enter c h0 h1 =>
    refine ⟨?_, by simp [instD, dep, depAll]⟩
    have o1 : okD (.str "enter") = true := okS _ (by decide +kernel)
    simp [instD, okD, okAll] at o1 ⊢
    exact o1
  | leave c h0 h1 =>
    refine ⟨?_, by simp [instD, dep, depAll]⟩
    have o1 : okD (.str "leave") = true := okS _ (by decide +kernel)
    simp [instD, okD, okAll] at o1 ⊢
    exact o1
  | give c h0 h1 =>
    refine ⟨?_, by simp [instD, dep, depAll]⟩
    have o1 : okD (.str "give") = true := okS _ (by decide +kernel)
    simp [instD, okD, okAll] at o1 ⊢
    exact o1
theorem dep_list {xs : List D} {n : Nat} (h : ∀ d ∈ xs, dep d ≤ n) : depAll xs ≤ n := by
  induction xs with
  | nil => simp [depAll]
  | cons x xs ih =>
    rw [depAll]
    exact Nat.max_le.mpr ⟨h x List.mem_cons_self, ih fun d hd => h d (List.mem_cons_of_mem _ hd)⟩
theorem fix_nd (xs : List (Str × Int)) : (ndL xs).map fixD = ndL xs := by
  unfold ndL
  rw [List.map_map]
  apply List.map_congr_left
  intro p _
  simp [nodeD, fixD, fixAll]
theorem put_known {ys : List (Str × Int)} {x : Str} {v : Rv} (h : x ∉ ys.map (·.1)) : putRk (knownR ys) (Sum.inr x : Key) v = knownR ys ++ [(Sum.inr x, v)] := by
  unfold putRk
  rw [if_neg]
  simp only [List.any_eq_true, not_exists, not_and, decide_eq_true_eq]
  intro q hq e
  unfold knownR at hq
  obtain ⟨p, h1, h2⟩ := List.mem_map.mp hq
  subst h2
  exact h (List.mem_map.mpr ⟨p, h1, Sum.inr.inj e⟩)
abbrev CalCode (P : Program) (w : World) (K : PySem.W.Frag) (mg : Str → Option Value) (base : Heap) (C : Addr) : Prop := CalN P w K mg base "Code" C 7 ["self", "nodes", "instructions", "start"] (spCodeInit C)
section
variable {X : Cx} {δ : S} {Φ : Post} {E : DE} {pos pos' p : Pos} {g : Str} {o value : Expr} {sts : List Stmt}
theorem JSs_at (δ' : S) (e : δ = δ') (h : JSs X sts δ' E) : JSs X sts δ E := e ▸ h
/-- self.f -/
theorem jself {fs0 : List Str} (cc : ClC X.K C fs0) (n i : Nat) {a dx : Addr} {fs : List (Str × Rv)} {v : Rv} (h1 : δ.sl[n]? = some (some (.adr a))) (h2 : δ.ob[i]? = some (a, MO.ins C dx fs)) (h3 : fs.lookup g = some v) (q : Φ v δ) (hf : g ∈ fs0 := by decide)
    (hN : X.N[n]? = some "self" := by rfl) (hv : Vis X.env.scope "self" := by first | exact Or.inl rfl | exact Or.inr (Or.inl rfl) | exact Or.inr (Or.inr rfl)) (hb : attributeBase (.Name "self" p) g X.env (eval (.Name "self" p) X.env) = eval (.Name "self" p) X.env := by rfl) : J X (.Attribute (.Name "self" p) g pos) δ Φ :=
  J_fld (J_name n h1 ⟨a, C, dx, i, fs, v, rfl, h2, cc.cls, cc.no g hf, h3, q⟩ hN hv) hb
theorem jset {fs0 : List Str} (cc : ClC X.K C fs0) (n i : Nat) {a dx : Addr} {fs : List (Str × Rv)} (h : J X value δ fun v δ1 => δ1.sl[n]? = some (some (.adr a)) ∧ δ1.ob[i]? = some (a, MO.ins C dx fs) ∧ Nat.ble fs.length 900 = true ∧ E.nx ⟨δ1.sl, δ1.ob.set i (a, .ins C dx (putR g v fs))⟩) (hf : g ∈ fs0 := by decide)
    (hN : X.N[n]? = some "self" := by rfl) (hv : Vis X.env.scope "self" := by first | exact Or.inl rfl | exact Or.inr (Or.inl rfl) | exact Or.inr (Or.inr rfl)) (hs : swapsWith value (some (.Attribute (.Name "self" p) g pos')) pos.line X.env = pure false := by rfl) : JS X (.Assign [.Attribute (.Name "self" p) g pos'] value pos) δ E :=
  JS_fld (h.imp fun v δ1 ⟨h1, h2, h3, q⟩ => J_name n h1 ⟨a, C, dx, i, fs, rfl, h2, cc.cls, cc.no g hf, h3, q⟩ hN hv) hs
end
abbrev fsCode : List Str := ["nodes", "known", "instructions", "start"]
theorem ok_codeInit (F : MethP K "__init__" "Code.__init__" sCodeInit f fd) (M : Mk K C f) (m : mg "Code" = some (.ref C)) (cc : ClC K C fsCode) (T : Tx mg) (TC : Tc mg) (c1 : CalNodes P w K mg base) (c2 : ∀ n, CalFix P w K mg base n) (c3 : CalListed P w K mg base) (c4 : CalInstr P w K mg base) (c5 : CalWithin P w K mg base) : CalCode P w K mg base C := by
  refine ⟨f, fd, fnG_of F scCodeInit (fun cdv A outer s H as Φ hr hs hl => ?_), M, m, F.bindsN fun _ _ _ _ _ _ us hl => match us, hl with | [_, _, _, _], _ => rfl⟩
  obtain ⟨me, dx, xs, ins, rfl, hn, nd, l1, l2, hi, i1, i2, q⟩ := hs
  obtain ⟨t1, C1⟩ := TC.mp
  have oknd : okD (.list (ndL xs)) = true := by
    have : okAll (ndL xs) = true := okAll_of fun d hd => by
      obtain ⟨p, hp, rfl⟩ := List.mem_map.mp hd
      obtain ⟨x', n2, e, _, ok, _⟩ := hn _ hp
      have ex : p.1 = x' := by
        simp only [nodeD, PyData.tuple.injEq, List.cons.injEq, PyData.str.injEq] at e
        exact e.1
      rw [← ex] at ok
      rw [nodeD, okD, okAll, ok]
      simp [okAll, okD]
    rw [okD, this]
    simp [ndL]
    omega
  have dpnd : dep (.list (ndL xs)) ≤ 2 := by
    rw [dep]
    have : depAll (ndL xs) ≤ 1 := dep_list fun d hd => by
      obtain ⟨p, hp, rfl⟩ := List.mem_map.mp hd
      simp [nodeD, dep, depAll]
    omega
  have okin : okD (.list ins) = true := by
    have : okAll ins = true := okAll_of fun d hd => (ins_ok hn (hi d hd)).1
    rw [okD, this]
    simp
    omega
  have dpin : dep (.list ins) ≤ 3 := by
    rw [dep]
    have := dep_list fun d hd => (ins_ok hn (hi d hd)).2
    omega
  refine JSs_cons <| JS_if <| JT_not <| JT_val <| J_cH c1 hr <| JA_cons <| J_name 1 rfl <| JA_nil <| hand0 rfl ⟨xs, rfl, hn, nd, l1, l2, rfl, true, rfl, nofun, fun _ => ?_⟩ fun as Φ Ψ i ⟨d, a, b, c, e, g, h⟩ => ⟨d, a, b, c, e, g, i _ _ h⟩
  refine JSs_nil <| JSs_cons <| jset cc 0 0 (a := me) (dx := dx) (fs := []) <| J_c1 (c2 2) hr <| JA_cons <| J_name 1 rfl <| JA_nil ⟨_, rfl, rfl, ⟨dpnd, oknd⟩, rfl, rfl, rfl, ?_⟩
  have efx : fixD (.list (ndL xs)) = .tuple (ndL xs) := by rw [fixD, fixAll_map, fix_nd]
  have efi : fixD (.list ins) = .tuple (ins.map fixD) := by rw [fixD, fixAll_map]
  rw [efx]
  refine JSs_at ⟨[some (.adr me), some (.list (ndL xs)), some (.list ins), some (.int 0), none, none], [(me, .ins C dx [("nodes", .tuple (ndL xs))])]⟩ rfl ?_
  refine JSs_cons <| jset cc 0 0 (a := me) (dx := dx) (fs := [("nodes", .tuple (ndL xs))]) ?_
  refine J_dc rfl scCodeInit.nd (blkOk_by (own := [("one", 4)]) (N := ["self", "nodes", "instructions", "start", "one", "at"]) (sc := defScope sCodeInit) (by decide +kernel)) <| JI_dat <| jself cc 0 0 rfl rfl rfl ⟨_, ndL xs, rfl, rfl, fun k acc δ2 => acc = knownR (xs.take k) ∧ δ2 = ⟨[some (.adr me), some (.list (ndL xs)), some (.list ins), some (.int 0), none, none], [(me, .ins C dx [("nodes", .tuple (ndL xs))])]⟩, ⟨rfl, rfl⟩, fun _ _ _ _ => trivial, ?_, ?_⟩
  · rintro k d acc δ2 hd ⟨rfl, rfl⟩ Y hY
    obtain ⟨s0, H0, C0, cl, fp, rfl⟩ := hY
    obtain ⟨p, hp, rfl⟩ : ∃ p, xs[k]? = some p ∧ d = .dat (nodeD p.1 p.2) := by
      unfold ndL at hd
      rw [List.getElem?_map, List.getElem?_map] at hd
      cases hx : xs[k]? with
      | none => rw [hx] at hd; cases hd
      | some p => rw [hx] at hd; cases hd; exact ⟨p, rfl, rfl⟩
    refine JG_name 4 scCodeInit.nd fun Y2 hY2 => JTs_nil ⟨fun _ Y3 hY3 => ?_, nofun⟩
    obtain ⟨s3, H3, C3, cl3, fp3, rfl⟩ := hY3
    refine J_ix ix_seq <| J_name 4 rfl <| J_int <| RJ_ix (xs := [.str p.1, .int p.2, .int 0]) .dt rfl ⟨.inr p.1, rfl, fun Y4 hY4 => ?_⟩
    obtain ⟨s4, H4, C4, cl4, fp4, rfl⟩ := hY4
    refine J_name 4 rfl ⟨?_, rfl⟩
    have e1 : xs.take (k + 1) = xs.take k ++ [p] := by
      rw [List.take_succ, hp]
      rfl
    rw [e1, put_known]
    · simp [knownR]
    · intro hm
      obtain ⟨q1, hq1, hq2⟩ := List.mem_map.mp hm
      obtain ⟨j, hj⟩ := List.getElem?_of_mem hq1
      have hjk : j < k := by
        have := (List.getElem?_eq_some_iff.mp hj).1
        rw [List.length_take] at this
        omega
      rw [List.getElem?_take_of_lt hjk] at hj
      have e2 : (xs.map (·.1))[j]? = some p.1 := by rw [List.getElem?_map, hj, ← hq2]; rfl
      have e3 : (xs.map (·.1))[k]? = some p.1 := by rw [List.getElem?_map, hp]; rfl
      have := nodup_get nd e2 e3
      omega
  · rintro acc δ2 ⟨rfl, rfl⟩ _ kn
    have e4 : xs.take ((ndL xs).map Rv.dat).length = xs := by simp [ndL]
    rw [e4]
    refine ⟨rfl, rfl, rfl, ?_⟩
    refine JSs_at ⟨[some (.adr me), some (.list (ndL xs)), some (.list ins), some (.int 0), none, none], [(me, .ins C dx [("nodes", .tuple (ndL xs)), ("known", .adr kn)]), (kn, .dk (knownR xs))]⟩ rfl ?_
    refine JSs_cons <| JS_if <| JT_w <| JW_or <| JT_not <| JT_val <| J_c1 c3 hr <| JA_cons <| J_name 2 rfl <| JA_nil ⟨_, rfl, rfl, trivial, true, rfl, nofun, fun _ => ?_⟩
    refine JW_or1 <| JT_not <| JT_chain op_le op_le <| J_int <| J_callB call_len T.len <| JA_cons <| J_name 2 rfl <| JA_nil <| RC_len .dl <| RJ_le ⟨true, congrArg Rv.bool (by simp; omega), fun _ => ?_, nofun⟩
    refine J_gint C1 <| RJ_le ⟨true, congrArg Rv.bool (by simp; omega), nofun, fun _ => JSs_nil ?_⟩
    refine JSs_cons <| @JS_for _ _ _ _ _ _ _ [5, 4] PassesOwn.never rfl ?_ (fun _ => rfl)
    refine JI_enum (J_name 2 rfl ⟨ins, rfl, by omega, fun k δ2 => ∃ x4 x5, δ2 = ⟨[some (.adr me), some (.list (ndL xs)), some (.list ins), some (.int 0), x4, x5], [(me, .ins C dx [("nodes", .tuple (ndL xs)), ("known", .adr kn)]), (kn, .dk (knownR xs))]⟩, ⟨_, _, rfl⟩, fun _ _ _ => trivial, ?_, ?_⟩) T.enumerate
    · rintro k d δ2 hd ⟨x4, x5, rfl⟩
      obtain ⟨z, hz, rfl⟩ : ∃ z, z ∈ ins ∧ d = .tuple [.int (k : Nat), z] := by
        unfold enumD at hd
        rw [List.getElem?_mapIdx] at hd
        cases hx : ins[k]? with
        | none => rw [hx] at hd; cases hd
        | some p => rw [hx] at hd; cases hd; exact ⟨p, List.mem_of_getElem? hx, rfl⟩
      refine JG_tup rfl <| JGs_cons <| JG_name 5 scCodeInit.nd <| JGs_cons <| JG_name 4 scCodeInit.nd <| JGs_nil ?_
      refine JSs_one <| JS_if <| JT_not <| JT_val <| J_cH c4 hr <| JA_cons <| jself cc 0 0 rfl rfl rfl <| JA_cons <| J_callB call_len T.len <| JA_cons <| J_name 2 rfl <| JA_nil <| RC_len .dl <| JA_cons <| J_name 4 rfl <| JA_nil ⟨[1], by decide, by simp, rfl, kn, _, _, _, rfl, hi z hz, by simp, rfl, true, rfl, nofun, fun _ => JSs_nil ?_⟩
      exact ⟨_, _, rfl⟩
    · rintro δ2 ⟨x4, x5, rfl⟩
      refine JSs_cons <| jset cc 0 0 (a := me) (dx := dx) (fs := [("nodes", .tuple (ndL xs)), ("known", .adr kn)]) <| J_c1 (c2 3) hr <| JA_cons <| J_name 2 rfl <| JA_nil ⟨_, rfl, rfl, ⟨dpin, okin⟩, rfl, rfl, rfl, ?_⟩
      rw [efi]
      refine JSs_at ⟨[some (.adr me), some (.list (ndL xs)), some (.list ins), some (.int 0), x4, x5], [(me, .ins C dx [("nodes", .tuple (ndL xs)), ("known", .adr kn), ("instructions", .tuple (ins.map fixD))]), (kn, .dk (knownR xs))]⟩ rfl ?_
      refine JSs_cons <| JS_if <| JT_not <| JT_val <| J_c3 c5 hr <| JA_cons <| J_name 3 rfl <| JA_cons <| J_int <| JA_cons <| J_bin op_sub <| J_callB call_len T.len <| JA_cons <| jself cc 0 0 rfl rfl rfl <| JA_nil <| RC_len .dt <| J_int <| RJ_sub <| JA_nil ⟨_, _, _, rfl, rfl, ⟨_, _, _, rfl, rfl, rfl⟩, true, ?_, nofun, fun _ => JSs_nil ?_⟩
      · simp [isWD]
        omega
      exact JSs_one <| jset cc 0 0 (a := me) (dx := dx) (fs := [("nodes", .tuple (ndL xs)), ("known", .adr kn), ("instructions", .tuple (ins.map fixD))]) <| J_name 3 rfl ⟨rfl, rfl, rfl, [0, 1], by decide, q kn⟩
end
end K71
end

section
open PySem PySem.Spec PyProof.Rows L2 DL SH
/-! K71G: rows of a code. -/
namespace K71
theorem no_mem {α β : Type} {f : α → β} {P : β → Prop} : ∀ d, d ∈ List.map f [] → P d := fun d h => by cases h
abbrev sRowsOf : Stmt := top 54
abbrev sMany : Stmt := top 55
/-- the rows of this law: one node without any below -/
def oneD : D := .list [.tuple [.str "na", .tuple []]]
def spNeed (C : Addr) : Spc := fun as Φ => ∃ c dx fs, as = ⟨[some (.adr c)], [(c, .ins C dx fs)]⟩ ∧ Φ .none [(c, .ins C dx fs)]
def spRowsOf (C : Addr) : Spc := fun as Φ => ∃ c dx kn xs ins n, as = ⟨[some (.adr c), some (.dat oneD)], [(c, codeO C dx kn xs ins), (kn, .dk (knownR xs))]⟩ ∧ valR (knownR xs) (Sum.inr "na" : Key) = some (.dat (nodeD "na" n)) ∧ Φ (.bool true) [(c, codeO C dx kn xs ins), (kn, .dk (knownR xs))]
def spMany : Spc := fun as Φ => as = ⟨[some (.dat oneD)], []⟩ ∧ Φ (.int 1) []
section
variable {P : Program} {w : World} {K : PySem.W.Frag} {mg : Str → Option Value} {base : Heap} {f : Addr} {fd : FuncData} {C : Addr}
abbrev CalNeed (P : Program) (w : World) (K : PySem.W.Frag) (mg : Str → Option Value) (base : Heap) (C : Addr) : Prop := Cal P w K mg base "need_code" 1 ["value"] (spNeed C)
abbrev CalRowsOf (P : Program) (w : World) (K : PySem.W.Frag) (mg : Str → Option Value) (base : Heap) (C : Addr) : Prop := Cal P w K mg base "are_rows_of" 3 ["code", "value"] (spRowsOf C)
abbrev CalMany (P : Program) (w : World) (K : PySem.W.Frag) (mg : Str → Option Value) (base : Heap) : Prop := Cal P w K mg base "many_nodes" 1 ["rows"] spMany
theorem ok_need (F : FnP K "need_code" sNeedCode f fd) (m : mg "need_code" = some (.ref f)) (T : Tx mg) (mc : mg "Code" = some (.ref C)) (ic : C8.InsC K C) : CalNeed P w K mg base C := by
  refine ⟨f, fd, fnG_of F scNeedCode (fun cdv A outer s H as Φ hr hs hl => ?_), m, F.kp, F.bindsN fun _ _ _ _ _ _ us hl => match us, hl with | [_], _ => rfl⟩
  obtain ⟨c, dx, fs, rfl, q⟩ := hs
  refine JSs_one <| JS_if <| JT_not <| JT_val <| J_callB (C8.call_isC ic) T.isi <| JA_cons <| J_name 0 rfl <| JA_cons <| J_gref mc <| JA_nil <| RC_isC 0 rfl ⟨true, rfl, nofun, fun _ => JSs_nil ⟨[0], by decide, q⟩⟩
theorem scRowsOf : FnScope ["code", "value", "at", "row", "one"] ["code", "value"] (defScope sRowsOf) := ⟨rfl, rfl, rfl, by decide +kernel, rfl, by decide +kernel, by decide +kernel⟩
theorem scMany : FnScope ["rows", "found", "name", "below", "at"] ["rows"] (defScope sMany) := ⟨rfl, rfl, rfl, by decide +kernel, rfl, by decide +kernel, by decide +kernel⟩
theorem ok_many (F : FnP K "many_nodes" sMany f fd) (m : mg "many_nodes" = some (.ref f)) (T : Tx mg) : CalMany P w K mg base := by
  refine ⟨f, fd, fnG_of F scMany (fun cdv A outer s H as Φ hr hs hl => ?_), m, F.kp, F.bindsN fun _ _ _ _ _ _ us hl => match us, hl with | [_], _ => rfl⟩
  obtain ⟨rfl, q⟩ := hs
  refine JSs_cons <| JS_asg 1 scMany.nd <| J_lst <| JA_nil ⟨rfl, fun fl => ?_⟩
  refine JSs_cons <| @JS_for _ _ _ _ _ _ _ [2, 3] PassesOwn.never rfl ?_ (fun _ => rfl)
  refine JI_dat <| J_name 0 rfl ⟨_, _, rfl, rfl, fun k δ => (k = 0 → δ = ⟨[some (.dat oneD), some (.adr fl), none, none, none], [(fl, .lst [])]⟩) ∧ (k = 1 → ∃ x y z, δ = ⟨[some (.dat oneD), some (.adr fl), x, y, z], [(fl, .lst [.int 1])]⟩), ⟨fun _ => rfl, nofun⟩, fun _ _ _ => trivial, ?_, ?_⟩
  · rintro k d δ hd ⟨h0, _⟩
    cases k with
    | succ k => cases hd
    | zero =>
      cases hd
      cases h0 rfl
      refine JG_tup rfl <| JGs_cons <| JG_name 2 scMany.nd <| JGs_cons <| JG_name 3 scMany.nd <| JGs_nil ?_
      refine JSs_cons <| JS_expr <| J_append <| J_name 1 rfl ⟨fl, [], 0, rfl, rfl, ?_⟩
      refine J_bin op_add <| J_int <| J_callB (cr_sum rfl) T.sum <| JA_cons <| J_lcP rfl scMany.nd (blkOk_by (own := [("at", 4)]) (N := ["rows", "found", "name", "below", "at"]) (sc := defScope sMany) (by decide +kernel)) <| JI_dat <| J_name 3 rfl ⟨_, [], rfl, rfl, fun _ => true, fun r => r, trivial, no_mem, fun sl => JA_nil <| RC_sum (ns := []) (.ol 1 rfl) <| RJ_add ⟨0, [], rfl, by decide, ?_⟩⟩
      refine JSs_pick [0] (by decide) ?_
      refine JSs_nil ⟨nofun, fun _ => ⟨_, _, _, rfl⟩⟩
  · rintro δ ⟨_, h1⟩
    obtain ⟨x, y, z, rfl⟩ := h1 rfl
    exact JSs_one <| JS_ret <| J_ix ix_seq <| J_name 1 rfl <| J_neg <| J_int ⟨1, rfl, RJ_ix (xs := [.int 1]) (.ol 0 rfl) rfl ⟨[], List.nodup_nil, q⟩⟩
theorem ok_rowsof (F : FnP K "are_rows_of" sRowsOf f fd) (m : mg "are_rows_of" = some (.ref f)) (T : Tx mg) (TC : Tc mg) (cc : ClC K C fsCode) : CalRowsOf P w K mg base C := by
  refine ⟨f, fd, fnG_of F scRowsOf (fun cdv A outer s H as Φ hr hs hl => ?_), m, F.kp, F.bindsN fun _ _ _ _ _ _ us hl => match us, hl with | [_, _], _ => rfl⟩
  obtain ⟨c, dx, kn, xs, ins, n, rfl, hv, q⟩ := hs
  have hu := hu_of hr.room
  obtain ⟨t1, C1⟩ := TC.mro
  refine JSs_cons <| JS_if <| JT_w <| JW_or <| JT_not <| JT_val <| isi2 "list" "tuple" T.isi T.list T.tuple <| J_name 1 rfl ⟨oneD, _, _, rfl, kb_list _, kb_tup _, true, rfl, nofun, fun _ => ?_⟩
  refine JW_or1 <| JT_not <| JT_chain op_le op_le <| J_int <| J_callB call_len T.len <| JA_cons <| J_name 1 rfl <| JA_nil <| RC_len .dl <| RJ_le ⟨true, rfl, fun _ => ?_, nofun⟩
  refine J_gint C1 <| RJ_le ⟨true, rfl, nofun, fun _ => JSs_nil ?_⟩
  refine JSs_cons <| @JS_for _ _ _ _ _ _ _ [2, 3] PassesOwn.never rfl ?_ (fun _ => rfl)
  refine JI_enum (J_name 1 rfl ⟨[.tuple [.str "na", .tuple []]], rfl, by decide, fun k δ => ∃ x y z, δ = ⟨[some (.adr c), some (.dat oneD), x, y, z], [(c, codeO C dx kn xs ins), (kn, .dk (knownR xs))]⟩, ⟨_, _, _, rfl⟩, fun _ _ _ => trivial, ?_, ?_⟩) T.enumerate
  · rintro k d δ hd ⟨x, y, z, rfl⟩
    cases k with
    | succ k => cases hd
    | zero =>
      cases hd
      refine JG_tup rfl <| JGs_cons <| JG_name 2 scRowsOf.nd <| JGs_cons <| JG_name 3 scRowsOf.nd <| JGs_nil ?_
      refine JSs_at ⟨[some (.adr c), some (.dat oneD), some (.int 0), some (.tuple [.str "na", .tuple []]), z], [(c, codeO C dx kn xs ins), (kn, .dk (knownR xs))]⟩ rfl ?_
      refine JSs_cons <| JS_if <| JT_w <| JW_or <| JT_not <| JT_val <| isi2 "list" "tuple" T.isi T.list T.tuple <| J_name 3 rfl ⟨.tuple [.str "na", .tuple []], _, _, rfl, kb_list _, kb_tup _, true, rfl, nofun, fun _ => ?_⟩
      refine JW_or <| JT_cmp op_ne (by rfl) <| J_callB call_len T.len <| JA_cons <| J_name 3 rfl <| JA_nil <| RC_len .dt <| J_int <| RJ_neI ⟨false, rfl, nofun, fun _ => ?_⟩
      refine JW_or1 <| JT_not <| JT_val <| isi1 "str" T.isi T.str <| J_ix ix_seq <| J_name 3 rfl <| J_int <| RJ_ix (xs := [.str "na", .tuple []]) .dt rfl ⟨.str "na", _, rfl, kb_str _, true, rfl, nofun, fun _ => JSs_nil ?_⟩
      refine JSs_cons <| JS_if <| JT_dnotin hu <| J_ix ix_seq <| J_name 3 rfl <| J_int <| RJ_ix (xs := [.str "na", .tuple []]) .dt rfl <| J_fld <| J_name 0 rfl ⟨c, C, dx, 0, _, _, rfl, rfl, cc.cls, cc.no _ (by decide), rfl, kn, knownR xs, .inr "na", 1, rfl, rfl, rfl, ?_, fun _ => JSs_nil ?_⟩
      · rw [hv]
        nofun
      refine JSs_cons <| JS_if <| JT_w <| JW_or <| JT_not <| JT_val <| isi2 "list" "tuple" T.isi T.list T.tuple <| J_ix ix_seq <| J_name 3 rfl <| J_int <| RJ_ix (xs := [.str "na", .tuple []]) .dt rfl ⟨.tuple [], _, _, rfl, kb_list _, kb_tup _, true, rfl, nofun, fun _ => ?_⟩
      refine JW_or1 <| JT_cmp op_ne (by rfl) <| J_callB call_len T.len <| JA_cons <| J_ix ix_seq <| J_name 3 rfl <| J_int <| RJ_ix (xs := [.str "na", .tuple []]) .dt rfl <| JA_nil <| RC_len (xs := []) .dt <| J_ix ix_seq <| J_dget hu <| J_fld <| J_name 0 rfl ⟨c, C, dx, 0, _, _, rfl, rfl, cc.cls, cc.no _ (by decide), rfl, J_ix ix_seq <| J_name 3 rfl <| J_int <| RJ_ix (xs := [.str "na", .tuple []]) .dt rfl ⟨kn, knownR xs, .inr "na", _, 1, rfl, rfl, rfl, hv, J_int <| RJ_ix (xs := [.str "na", .int n, .int 0]) .dt rfl <| RJ_neI ⟨false, rfl, nofun, fun _ => JSs_nil ?_⟩⟩⟩
      refine JSs_one <| JS_if <| JT_not <| JT_val <| J_callB (cr_all rfl) T.all <| JA_cons <| J_lcP rfl scRowsOf.nd (blkOk_by (own := [("one", 4)]) (N := ["code", "value", "at", "row", "one"]) (sc := defScope sRowsOf) (by decide +kernel)) <| JI_dat <| J_ix ix_seq <| J_name 3 rfl <| J_int <| RJ_ix (xs := [.str "na", .tuple []]) .dt rfl ⟨.tuple [], [], rfl, rfl, fun _ => true, fun r => r, trivial, no_mem, fun sl => JA_nil <| RC_all (bs := []) (.ol 2 rfl) ⟨true, rfl, nofun, fun _ => JSs_pick [0, 1] (by decide) <| JSs_nil ⟨_, _, _, rfl⟩⟩⟩
  · rintro δ ⟨x, y, z, rfl⟩
    exact JSs_one <| JS_ret <| J_bool ⟨[0, 1], by decide, q⟩
end
end K71
end

section
open PySem PySem.Spec PyProof.Rows L2 DL SH
/-! K71H: cells, turns. -/
namespace K71
section
variable {X : Cx} {δ : S} {Φ : Post} {E : DE} {pos pos' p : Pos} {x g : Str} {o value : Expr} {sts : List Stmt} {C : Addr}
/-- x.f -/
theorem jf {fs0 : List Str} (cc : ClC X.K C fs0) (n i : Nat) {a dx : Addr} {fs : List (Str × Rv)} {v : Rv} (h1 : δ.sl[n]? = some (some (.adr a))) (h2 : δ.ob[i]? = some (a, MO.ins C dx fs)) (h3 : fs.lookup g = some v) (q : Φ v δ) (hf : g ∈ fs0 := by decide)
    (hN : X.N[n]? = some x := by rfl) (hv : Vis X.env.scope x := by first | exact Or.inl rfl | exact Or.inr (Or.inl rfl) | exact Or.inr (Or.inr rfl)) (hb : attributeBase (.Name x p) g X.env (eval (.Name x p) X.env) = eval (.Name x p) X.env := by rfl)
    (hd : (x == ("__debug__" : Str)) = false := by decide) (hcd : (x == ("__classdict__" : Str)) = false := by decide) : J X (.Attribute (.Name x p) g pos) δ Φ :=
  J_fld (J_name n h1 ⟨a, C, dx, i, fs, v, rfl, h2, cc.cls, cc.no g hf, h3, q⟩ hN hv hd hcd) hb
/-- e.f, e an object -/
theorem jo {fs0 : List Str} (cc : ClC X.K C fs0) (h : J X o δ fun r δ1 => ∃ (a dx : Addr) (i : Nat) (fs : List (Str × Rv)) (v : Rv), r = .adr a ∧ δ1.ob[i]? = some (a, MO.ins C dx fs) ∧ fs.lookup g = some v ∧ Φ v δ1) (hf : g ∈ fs0 := by decide)
    (hb : attributeBase o g X.env (eval o X.env) = eval o X.env := by rfl) : J X (.Attribute o g pos) δ Φ :=
  J_fld (h.imp fun r δ1 ⟨a, dx, i, fs, v, e, h2, h3, q⟩ => ⟨a, C, dx, i, fs, v, e, h2, cc.cls, cc.no g hf, h3, q⟩) hb
end
def iR (xs : List Int) : List Rv := xs.map Rv.int
def iD (xs : List Int) : List PyData := xs.map PyData.int
abbrev sCellsInit : Stmt := inClass (top 56) 0
abbrev sTake : Stmt := inClass (top 56) 1
abbrev sGive : Stmt := inClass (top 56) 2
abbrev sTurnInit : Stmt := inClass (top 57) 0
abbrev sRead : Stmt := inClass (top 57) 1
abbrev sPut : Stmt := inClass (top 57) 2
abbrev sKept : Stmt := inClass (top 57) 3
def cellsO (C dx fl : Addr) : MO := .ins C dx [("free", .adr fl)]
def turnO (C dx rg : Addr) (fr : D) : MO := .ins C dx [("registers", .adr rg), ("frame", .dat fr), ("back", .none), ("register", .none)]
def spCellsInit (C : Addr) : Spc := fun as Φ => ∃ (me dx : Addr) (r : Nat), as = ⟨[some (.adr me), some (.int (r : Nat))], [(me, .ins C dx [])]⟩ ∧ r ≤ 1000 ∧ ∀ fl, Φ .none [(me, cellsO C dx fl), (fl, .lst (downD ((r : Int) - 1) r))]
def spTake (C : Addr) : Spc := fun as Φ => ∃ (me dx fl : Addr) (m : Nat) (free : List Int), as = ⟨[some (.adr me), some (.int (m : Nat))], [(me, cellsO C dx fl), (fl, .lst (iR free.reverse))]⟩ ∧ m ≤ free.length ∧ m ≤ 1000 ∧ Φ (.tuple (iD (free.take m))) [(me, cellsO C dx fl), (fl, .lst (iR (free.drop m).reverse))]
def spGive (C : Addr) : Spc := fun as Φ => ∃ (me dx fl : Addr) (ns free : List Int), as = ⟨[some (.adr me), some (.tuple (iD ns))], [(me, cellsO C dx fl), (fl, .lst (iR free.reverse))]⟩ ∧ free.length + ns.length ≤ 1000 ∧ Φ .none [(me, cellsO C dx fl), (fl, .lst (iR (ns ++ free).reverse))]
abbrev fsCells : List Str := ["free"]
abbrev fsTurn : List Str := ["registers", "frame", "back", "register"]
section
variable {P : Program} {w : World} {K : PySem.W.Frag} {mg : Str → Option Value} {base : Heap} {f : Addr} {fd : FuncData} {C : Addr}
abbrev CalCells (P : Program) (w : World) (K : PySem.W.Frag) (mg : Str → Option Value) (base : Heap) (C : Addr) : Prop := CalN P w K mg base "Cells" C 1 ["self", "room"] (spCellsInit C)
abbrev CalTake (P : Program) (w : World) (K : PySem.W.Frag) (mg : Str → Option Value) (base : Heap) (C : Addr) : Prop := CalM P w K mg base C "take" 1 ["self", "many"] (spTake C)
abbrev CalGive (P : Program) (w : World) (K : PySem.W.Frag) (mg : Str → Option Value) (base : Heap) (C : Addr) : Prop := CalM P w K mg base C "give_back" 1 ["self", "numbers"] (spGive C)
theorem scCellsInit : FnScope ["self", "room"] ["self", "room"] (defScope sCellsInit) := ⟨rfl, rfl, rfl, by decide +kernel, rfl, by decide +kernel, by decide +kernel⟩
theorem scTake : FnScope ["self", "many", "turn"] ["self", "many"] (defScope sTake) := ⟨rfl, rfl, rfl, by decide +kernel, rfl, by decide +kernel, by decide +kernel⟩
theorem scGive : FnScope ["self", "numbers"] ["self", "numbers"] (defScope sGive) := ⟨rfl, rfl, rfl, by decide +kernel, rfl, by decide +kernel, by decide +kernel⟩
theorem scTurnInit : FnScope ["self", "handed", "back", "register"] ["self", "handed", "back", "register"] (defScope sTurnInit) := ⟨rfl, rfl, rfl, by decide +kernel, rfl, by decide +kernel, by decide +kernel⟩
theorem scRead : FnScope ["self", "register"] ["self", "register"] (defScope sRead) := ⟨rfl, rfl, rfl, by decide +kernel, rfl, by decide +kernel, by decide +kernel⟩
theorem scPut : FnScope ["self", "register", "value"] ["self", "register", "value"] (defScope sPut) := ⟨rfl, rfl, rfl, by decide +kernel, rfl, by decide +kernel, by decide +kernel⟩
theorem scKept : FnScope ["self", "other"] ["self"] (defScope sKept) := ⟨rfl, rfl, rfl, by decide +kernel, rfl, by decide +kernel, by decide +kernel⟩
theorem ok_cellsInit (F : MethP K "__init__" "Cells.__init__" sCellsInit f fd) (M : Mk K C f) (m : mg "Cells" = some (.ref C)) (cc : ClC K C fsCells) (T : Tx mg) : CalCells P w K mg base C := by
  refine ⟨f, fd, fnG_of F scCellsInit (fun cdv A outer s H as Φ hr hs hl => ?_), M, m, F.bindsN fun _ _ _ _ _ _ us hl => match us, hl with | [_, _], _ => rfl⟩
  obtain ⟨me, dx, r, rfl, hr1, q⟩ := hs
  refine JSs_one <| jset cc 0 0 (a := me) (dx := dx) (fs := []) <| J_listDown rfl T.list T.range <| JA_cons <| J_bin op_sub <| J_name 1 rfl <| J_int <| RJ_sub <| JA_cons <| J_neg <| J_int ⟨1, rfl, JA_cons <| J_neg <| J_int ⟨1, rfl, JA_nil ⟨_, _, rfl, by omega, by omega, by omega, by omega, fun fl => ⟨rfl, rfl, rfl, [0, 1], by decide, ?_⟩⟩⟩⟩
  have e : ((r : Int) - 1 - -1).toNat = r := by omega
  rw [e]
  exact q fl
theorem iD_dat (xs : List Int) : (iD xs).map Rv.dat = iR xs := by
  unfold iD iR
  rw [List.map_map]
  rfl
theorem ints_snoc (l : List Int) (x : Int) : iR (l ++ [x]) = iR l ++ [Rv.int x] := by simp [iR]
theorem drop_rev {free : List Int} {k : Nat} {x : Int} (h : free[k]? = some x) : iR (free.drop k).reverse = iR (free.drop (k + 1)).reverse ++ [Rv.int x] := by
  obtain ⟨hk, rfl⟩ := List.getElem?_eq_some_iff.mp h
  rw [List.drop_eq_getElem_cons hk, List.reverse_cons, ints_snoc]
theorem ok_take (F : MethP K "take" "Cells.take" sTake f fd) (M : Meth K C "take" f) (cc : ClC K C fsCells) (T : Tx mg) : CalTake P w K mg base C := by
  refine ⟨f, fd, fnG_of F scTake (fun cdv A outer s H as Φ hr hs hl => ?_), M, F.bindsN fun _ _ _ _ _ _ us hl => match us, hl with | [_, _], _ => rfl⟩
  obtain ⟨me, dx, fl, m, free, rfl, hm, hm2, q⟩ := hs
  refine JSs_cons <| JS_if <| JT_cmp op_gt (by rfl) <| J_name 1 rfl <| J_callB call_len T.len <| JA_cons <| jf cc 0 0 rfl rfl rfl <| JA_nil <| RC_len (.ol 1 rfl) <| RJ_gt ⟨false, congrArg Rv.bool (by simp [iR]; omega), nofun, fun _ => JSs_nil ?_⟩
  refine JSs_one <| JS_ret <| J_callTy call_tuple_of T.tuple <| JA_cons <| J_lc rfl scTake.nd (blkOk_by (own := [("turn", 2)]) (N := ["self", "many", "turn"]) (sc := defScope sTake) (by decide +kernel)) ?_
  refine JI_range1 (J_name 1 rfl ⟨(m : Int), rfl, by omega, by omega, fun k acc δ2 => acc = iR (free.take k) ∧ δ2 = ⟨[some (.adr me), some (.int (m : Nat)), none], [(me, cellsO C dx fl), (fl, .lst (iR (free.drop k).reverse))]⟩, ⟨rfl, rfl⟩, fun _ _ _ _ => trivial, ?_, ?_⟩) T.range
  · rintro k d acc δ2 hd ⟨rfl, rfl⟩ Y hY
    obtain ⟨s0, H0, C0, cl, fp, rfl⟩ := hY
    have hk : k < m := by
      have := (List.getElem?_eq_some_iff.mp hd).1
      rw [rangeD_length] at this
      omega
    refine JG_name 2 scTake.nd fun Y2 hY2 => JTs_nil ⟨fun _ Y3 hY3 => ?_, nofun⟩
    obtain ⟨s3, H3, C3, cl3, fp3, rfl⟩ := hY3
    have hx : free[k]? = some (free[k]'(by omega)) := List.getElem?_eq_getElem (by omega)
    refine J_pop <| jf cc 0 0 rfl rfl rfl ⟨fl, _, Rv.int (free[k]'(by omega)), 1, rfl, rfl, ?_, ?_, ?_⟩
    · rw [drop_rev hx]
      simp
    · have e1 : free.take (k + 1) = free.take k ++ [free[k]'(by omega)] := by
        rw [List.take_succ, hx]
        rfl
      rw [e1, ints_snoc]
    · rw [drop_rev hx, List.dropLast_concat]
      rfl
  · rintro acc δ2 ⟨rfl, rfl⟩ _ tl
    rw [rangeD_length]
    have e0 : ((m : Nat) : Int).toNat = m := by omega
    rw [e0]
    refine JA_nil <| RC_tupleL (ds := iD (free.take m)) ?_ ⟨[0, 1], by decide, q⟩
    have e1 : (iD (free.take m)).map Rv.dat = iR (free.take m) := iD_dat _
    rw [e1]
    exact .ol 2 rfl
theorem ok_give (F : MethP K "give_back" "Cells.give_back" sGive f fd) (M : Meth K C "give_back" f) (cc : ClC K C fsCells) (T : Tx mg) : CalGive P w K mg base C := by
  refine ⟨f, fd, fnG_of F scGive (fun cdv A outer s H as Φ hr hs hl => ?_), M, F.bindsN fun _ _ _ _ _ _ us hl => match us, hl with | [_, _], _ => rfl⟩
  obtain ⟨me, dx, fl, ns, free, rfl, hm, q⟩ := hs
  refine JSs_one <| JS_expr <| J_extend <| jf cc 0 0 rfl rfl rfl ⟨fl, _, 1, rfl, rfl, J_revT <| J_name 1 rfl ⟨_, rfl, 1, _, _, rfl, .dt, ?_, [0, 1], by decide, ?_⟩⟩
  · simp [iR, iD]
    omega
  · have e : iR free.reverse ++ (iD ns).reverse.map Rv.dat = iR (ns ++ free).reverse := by simp [iR, iD, List.map_reverse, Function.comp_def]
    rw [← e] at q
    exact q
/-! ### turns -/
def spTurnInit (C : Addr) : Spc := fun as Φ => ∃ (me dx : Addr) (hs : List Int), as = ⟨[some (.adr me), some (.tuple (iD hs)), some .none, some .none], [(me, .ins C dx [])]⟩ ∧ ∀ rg, Φ .none [(me, turnO C dx rg .none), (rg, .dk (numR 0 (iR hs)))]
def spRead (C : Addr) : Spc := fun as Φ => ∃ (me dx rg : Addr) (fr : D) (kvs : List (Key × Rv)) (r : Int) (v : Rv), as = ⟨[some (.adr me), some (.int r)], [(me, turnO C dx rg fr), (rg, .dk kvs)]⟩ ∧ valR kvs (Sum.inl r : Key) = some v ∧ Φ v [(me, turnO C dx rg fr), (rg, .dk (dropR kvs (Sum.inl r)))]
def spPut (C : Addr) : Spc := fun as Φ => ∃ (me dx rg : Addr) (fr : D) (kvs : List (Key × Rv)) (r v : Int), as = ⟨[some (.adr me), some (.int r), some (.int v)], [(me, turnO C dx rg fr), (rg, .dk kvs)]⟩ ∧ valR kvs (Sum.inl r : Key) = none ∧ kvs.length < 1000 ∧ Φ .none [(me, turnO C dx rg fr), (rg, .dk (putRk kvs (Sum.inl r) (.int v)))]
def spKept (C : Addr) : Spc := fun as Φ => ∃ (me dx rg : Addr) (fr : D) (kvs : List (Key × Rv)), as = ⟨[some (.adr me)], [(me, turnO C dx rg fr), (rg, .dk kvs)]⟩ ∧ ∀ t2 dx2 rg2, Φ (.adr t2) [(me, turnO C dx rg fr), (rg, .dk kvs), (t2, turnO C dx2 rg2 fr), (rg2, .dk kvs)]
abbrev CalTurn (P : Program) (w : World) (K : PySem.W.Frag) (mg : Str → Option Value) (base : Heap) (C : Addr) : Prop := CalN P w K mg base "Turn" C 1 ["self", "handed", "back", "register"] (spTurnInit C)
abbrev CalRead (P : Program) (w : World) (K : PySem.W.Frag) (mg : Str → Option Value) (base : Heap) (C : Addr) : Prop := CalM P w K mg base C "read" 1 ["self", "register"] (spRead C)
abbrev CalPut (P : Program) (w : World) (K : PySem.W.Frag) (mg : Str → Option Value) (base : Heap) (C : Addr) : Prop := CalM P w K mg base C "put" 1 ["self", "register", "value"] (spPut C)
abbrev CalKept (P : Program) (w : World) (K : PySem.W.Frag) (mg : Str → Option Value) (base : Heap) (C : Addr) : Prop := CalM P w K mg base C "kept" 3 ["self"] (spKept C)
theorem ok_turnInit (F : MethP K "__init__" "Turn.__init__" sTurnInit f fd) (M : Mk K C f) (m : mg "Turn" = some (.ref C)) (cc : ClC K C fsTurn) (T : Tx mg) : CalTurn P w K mg base C := by
  refine ⟨f, fd, fnG_of F scTurnInit (fun cdv A outer s H as Φ hr hs hl => ?_), M, m, F.bindsN fun _ _ _ _ _ _ us hl => match us, hl with | [_, _, _, _], _ => rfl⟩
  obtain ⟨me, dx, hs, rfl, q⟩ := hs
  refine JSs_cons <| jset cc 0 0 (a := me) (dx := dx) (fs := []) <| J_dictEnum rfl T.dict T.enumerate <| J_name 1 rfl ⟨iR hs, ?_, fun rg => ⟨rfl, rfl, rfl, ?_⟩⟩
  · rw [← iD_dat]
    exact .dt
  refine JSs_at ⟨[some (.adr me), some (.tuple (iD hs)), some .none, some .none], [(me, .ins C dx [("registers", .adr rg)]), (rg, .dk (numR 0 (iR hs)))]⟩ rfl ?_
  refine JSs_cons <| jset cc 0 0 (a := me) (dx := dx) (fs := [("registers", .adr rg)]) <| J_none ⟨rfl, rfl, rfl, ?_⟩
  refine JSs_at ⟨[some (.adr me), some (.tuple (iD hs)), some .none, some .none], [(me, .ins C dx [("registers", .adr rg), ("frame", .none)]), (rg, .dk (numR 0 (iR hs)))]⟩ rfl ?_
  refine JSs_cons <| jset cc 0 0 (a := me) (dx := dx) (fs := [("registers", .adr rg), ("frame", .none)]) <| J_name 2 rfl ⟨rfl, rfl, rfl, ?_⟩
  refine JSs_at ⟨[some (.adr me), some (.tuple (iD hs)), some .none, some .none], [(me, .ins C dx [("registers", .adr rg), ("frame", .none), ("back", .none)]), (rg, .dk (numR 0 (iR hs)))]⟩ rfl ?_
  exact JSs_one <| jset cc 0 0 (a := me) (dx := dx) (fs := [("registers", .adr rg), ("frame", .none), ("back", .none)]) <| J_name 3 rfl ⟨rfl, rfl, rfl, [0, 1], by decide, q rg⟩
theorem ok_read (F : MethP K "read" "Turn.read" sRead f fd) (M : Meth K C "read" f) (cc : ClC K C fsTurn) (T : Tx mg) : CalRead P w K mg base C := by
  refine ⟨f, fd, fnG_of F scRead (fun cdv A outer s H as Φ hr hs hl => ?_), M, F.bindsN fun _ _ _ _ _ _ us hl => match us, hl with | [_, _], _ => rfl⟩
  obtain ⟨me, dx, rg, fr, kvs, r, v, rfl, hv, q⟩ := hs
  have hu := hu_of hr.room
  refine JSs_cons <| JS_if <| JT_dnotin hu <| J_name 1 rfl <| jf cc 0 0 rfl rfl rfl ⟨rg, kvs, .inl r, 1, rfl, rfl, rfl, ?_, fun _ => JSs_nil ?_⟩
  · rw [hv]
    nofun
  exact JSs_one <| JS_ret <| J_dpop <| jf cc 0 0 rfl rfl rfl ⟨rg, kvs, 1, rfl, rfl, J_name 1 rfl ⟨kvs, .inl r, v, 1, rfl, rfl, hv, [0, 1], by decide, q⟩⟩
theorem ok_put (F : MethP K "put" "Turn.put" sPut f fd) (M : Meth K C "put" f) (cc : ClC K C fsTurn) (T : Tx mg) : CalPut P w K mg base C := by
  refine ⟨f, fd, fnG_of F scPut (fun cdv A outer s H as Φ hr hs hl => ?_), M, F.bindsN fun _ _ _ _ _ _ us hl => match us, hl with | [_, _, _], _ => rfl⟩
  obtain ⟨me, dx, rg, fr, kvs, r, v, rfl, hv, hlen, q⟩ := hs
  have hu := hu_of hr.room
  refine JSs_cons <| JS_if <| JT_din hu <| J_name 1 rfl <| jf cc 0 0 rfl rfl rfl ⟨rg, kvs, .inl r, 1, rfl, rfl, rfl, ?_, fun _ => JSs_nil ?_⟩
  · rw [hv]
    nofun
  exact JSs_one <| JS_dput hu <| J_name 2 rfl <| jf cc 0 0 rfl rfl rfl <| J_name 1 rfl ⟨rg, kvs, .inl r, 1, rfl, rfl, rfl, by omega, [0, 1], by decide, q⟩
theorem ok_kept (F : MethP K "kept" "Turn.kept" sKept f fd) (M : Meth K C "kept" f) (cc : ClC K C fsTurn) (T : Tx mg) (c1 : CalTurn P w K mg base C) : CalKept P w K mg base C := by
  refine ⟨f, fd, fnG_of F scKept (fun cdv A outer s H as Φ hr hs hl => ?_), M, F.bindsN fun _ _ _ _ _ _ us hl => match us, hl with | [_], _ => rfl⟩
  obtain ⟨me, dx, rg, fr, kvs, rfl, q⟩ := hs
  refine JSs_cons <| JS_asg 1 scKept.nd <| J_cn c1 hr <| JA_cons <| J_tup <| JA_nil ⟨[], rfl, rfl, JA_cons <| jf cc 0 0 rfl rfl rfl <| JA_cons <| jf cc 0 0 rfl rfl rfl <| JA_nil fun t2 dx2 => ⟨[2], by decide, by simp, rfl, t2, dx2, [], rfl, fun rg0 => ⟨by simp, rfl, rfl, ?_⟩⟩⟩
  refine JSs_at ⟨[some (.adr me), some (.adr t2)], [(me, turnO C dx rg fr), (rg, .dk kvs), (t2, turnO C dx2 rg0 .none), (rg0, .dk [])]⟩ rfl ?_
  refine JSs_cons <| JS_asgG [] <| J_tupO <| JA_cons <| J_callTy call_dictD T.dict <| JA_cons <| jf cc 0 0 rfl rfl rfl <| JA_nil <| RC_dictD 1 rfl fun rg2 => JA_cons <| jf cc 0 0 rfl rfl rfl <| JA_nil ⟨rfl, fun tp => ?_⟩
  refine JG_tupO 5 rfl rfl <| JGs_cons <| JG_fld <| J_name 1 rfl ⟨t2, C, dx2, 2, _, rfl, rfl, cc.cls, cc.no _ (by decide), rfl, JGs_cons <| JG_fld <| J_name 1 rfl ⟨t2, C, dx2, 2, _, rfl, rfl, cc.cls, cc.no _ (by decide), rfl, JGs_nil ?_⟩⟩
  exact JSs_one <| JS_ret <| J_name 1 rfl ⟨[0, 1, 2, 4], by decide, q t2 dx2 rg2⟩
end
end K71
end

section
open PySem PySem.Spec PyProof.Rows L2 DL SH
/-! K71I: machines: nodes, loading. -/
namespace K71
abbrev mth (i : Nat) : Stmt := inClass (top 58) i
def isNn : Rv → Bool
  | .dat .none => true
  | _ => false
theorem nn_of {K : PySem.W.Frag} {G : Hp} {v : V} {r : Rv} (h : RvOk K G v r) : decide (v = .non) = isNn r := by
  cases h with
  | adr => simp [isNn]
  | dat h => cases h <;> simp [isNn]
section
variable {X : Cx} {δ : S} {Φ : Post}
theorem RJ_isN {r : Rv} (q : Φ (.bool (isNn r)) δ) : RJ X (fun x y H Q => y = .non ∧ Q (.bl (decide (x = .non))) H) r .none δ Φ := fun F σ G H Q v u rl x y k => by
  obtain rfl := rv_none y
  refine ⟨rfl, ?_⟩
  rw [nn_of x]
  exact k _ _ δ G H rl (Same.refl G) (.dat (.bl _)) q
theorem RJ_notN {r : Rv} (q : Φ (.bool (!isNn r)) δ) : RJ X (fun x y H Q => y = .non ∧ Q (.bl (!decide (x = .non))) H) r .none δ Φ := fun F σ G H Q v u rl x y k => by
  obtain rfl := rv_none y
  refine ⟨rfl, ?_⟩
  rw [nn_of x]
  exact k _ _ δ G H rl (Same.refl G) (.dat (.bl _)) q
end
theorem lookup_put {f g : Str} {v : Rv} : ∀ {fs : List (Str × Rv)}, (putR f v fs).lookup g = if g = f then some v else fs.lookup g
  | [] => by
    simp only [putR, List.lookup_cons, List.lookup_nil]
    by_cases h : g = f
    · subst h; simp
    · have : (g == f) = false := by simpa using h
      rw [this, if_neg h]
  | (k, x) :: fs => by
    rw [putR]
    by_cases hk : k = f
    · subst hk
      rw [if_pos rfl, List.lookup_cons]
      by_cases h : g = k
      · subst h; simp
      · have : (g == k) = false := by simpa using h
        rw [this, if_neg h, List.lookup_cons, this]
    · rw [if_neg hk, List.lookup_cons]
      by_cases h : g = k
      · subst h
        simp [hk]
      · have : (g == k) = false := by simpa using h
        rw [this]
        show (putR f v fs).lookup g = _
        rw [lookup_put, List.lookup_cons, this]
theorem putR_len {f : Str} {v : Rv} : ∀ {fs : List (Str × Rv)}, (putR f v fs).length ≤ fs.length + 1
  | [] => by simp [putR]
  | (k, x) :: fs => by
    rw [putR]
    split
    · simp
    · have := putR_len (f := f) (v := v) (fs := fs)
      simp
      omega
theorem putRk_fresh {κ : Type} [DecidableEq κ] {kvs : List (κ × Rv)} {k : κ} {v : Rv} (h : k ∉ kvs.map (·.1)) : putRk kvs k v = kvs ++ [(k, v)] := by
  unfold putRk
  rw [if_neg]
  simp only [List.any_eq_true, not_exists, not_and, decide_eq_true_eq]
  intro q hq e
  exact h (List.mem_map.mpr ⟨q, hq, e⟩)
abbrev ND : Type := Int × Str × List Int
def nodeT (x : Str) (cs : List Int) : PyData := .tuple [.str x, .tuple [], .tuple (iD cs)]
def nodesR (ns : List ND) : List (Key × Rv) := ns.map fun q => ((Sum.inl q.1 : Key), Rv.dat (nodeT q.2.1 q.2.2))
theorem nodesR_keys (ns : List ND) : (nodesR ns).map (·.1) = ns.map fun q => (Sum.inl q.1 : Key) := by
  unfold nodesR
  rw [List.map_map]
  rfl
theorem put_node {ns : List ND} {i : Int} {x : Str} {cs : List Int} (h : i ∉ ns.map (·.1)) : putRk (nodesR ns) (Sum.inl i : Key) (.dat (nodeT x cs)) = nodesR (ns ++ [(i, x, cs)]) := by
  rw [putRk_fresh]
  · simp [nodesR]
  · rw [nodesR_keys]
    intro hm
    obtain ⟨q, h1, h2⟩ := List.mem_map.mp hm
    exact h (List.mem_map.mpr ⟨q, h1, Sum.inl.inj h2⟩)
/-- the classes -/
structure CA where
  (code cells turn mach : Addr)
abbrev fsMach : List Str := ["code", "room", "free", "nodes", "made", "place", "status", "why", "given", "line", "moments"]
structure ClA (K : PySem.W.Frag) (c : CA) : Prop where
  code : ClC K c.code fsCode
  cells : ClC K c.cells fsCells
  turn : ClC K c.turn fsTurn
  mach : ClC K c.mach fsMach
def spMNode (c : CA) : Spc := fun as Φ => ∃ (m md cc cd kn ce ced fl nd l : Addr) (fs : List (Str × Rv)) (xs : List (Str × Int)) (ins : List D) (free : List Int) (ns : List ND) (made : Int) (x : Str) (k : Nat),
  as = ⟨[some (.adr m), some (.str x), some (.adr l)], [(m, .ins c.mach md fs), (cc, codeO c.code cd kn xs ins), (kn, .dk (knownR xs)), (ce, cellsO c.cells ced fl), (fl, .lst (iR free.reverse)), (nd, .dk (nodesR ns)), (l, .lst [])]⟩ ∧
  fs.lookup ("code" : Str) = some (.adr cc) ∧ fs.lookup ("free" : Str) = some (.adr ce) ∧ fs.lookup ("nodes" : Str) = some (.adr nd) ∧ fs.lookup ("made" : Str) = some (.int made) ∧ Nat.ble fs.length 800 = true ∧
  valR (knownR xs) (Sum.inr x : Key) = some (.dat (nodeD x k)) ∧ k ≤ free.length ∧ k ≤ 1000 ∧ made + 1 ∉ ns.map (·.1) ∧ ns.length < 1000 ∧
  Φ (.int (made + 1)) [(m, .ins c.mach md (putR "made" (.int (made + 1)) fs)), (cc, codeO c.code cd kn xs ins), (kn, .dk (knownR xs)), (ce, cellsO c.cells ced fl), (fl, .lst (iR (free.drop k).reverse)), (nd, .dk (nodesR (ns ++ [(made + 1, x, free.take k)]))), (l, .lst [])]
def spTaken (c : CA) : Spc := fun as Φ => ∃ (m md ce ced fl : Addr) (fs : List (Str × Rv)) (free : List Int) (room : Int),
  as = ⟨[some (.adr m)], [(m, .ins c.mach md fs), (ce, cellsO c.cells ced fl), (fl, .lst (iR free.reverse))]⟩ ∧ fs.lookup ("room" : Str) = some (.int room) ∧ fs.lookup ("free" : Str) = some (.adr ce) ∧
  Φ (.int (room - (free.length : Nat))) [(m, .ins c.mach md fs), (ce, cellsO c.cells ced fl), (fl, .lst (iR free.reverse))]
section
variable {P : Program} {w : World} {K : PySem.W.Frag} {mg : Str → Option Value} {base : Heap} {f : Addr} {fd : FuncData} {c : CA}
abbrev CalMNode (P : Program) (w : World) (K : PySem.W.Frag) (mg : Str → Option Value) (base : Heap) (c : CA) : Prop := CalM P w K mg base c.mach "node" 2 ["self", "name", "below"] (spMNode c)
abbrev CalTaken (P : Program) (w : World) (K : PySem.W.Frag) (mg : Str → Option Value) (base : Heap) (c : CA) : Prop := CalM P w K mg base c.mach "taken" 1 ["self"] (spTaken c)
theorem scNodeM : FnScope ["self", "name", "below", "cells"] ["self", "name", "below"] (defScope (mth 2)) := ⟨rfl, rfl, rfl, by decide +kernel, rfl, by decide +kernel, by decide +kernel⟩
theorem scTaken : FnScope ["self"] ["self"] (defScope (mth 3)) := ⟨rfl, rfl, rfl, by decide +kernel, rfl, by decide +kernel, by decide +kernel⟩
theorem ok_taken (F : MethP K "taken" "Machine.taken" (mth 3) f fd) (M : Meth K c.mach "taken" f) (cl : ClA K c) (T : Tx mg) : CalTaken P w K mg base c := by
  refine ⟨f, fd, fnG_of F scTaken (fun cdv A outer s H as Φ hr hs hl => ?_), M, F.bindsN fun _ _ _ _ _ _ us hl => match us, hl with | [_], _ => rfl⟩
  obtain ⟨m, md, ce, ced, fl, fs, free, room, rfl, h1, h2, q⟩ := hs
  refine JSs_one <| JS_ret <| J_bin op_sub <| jf cl.mach 0 0 rfl rfl h1 <| J_callB call_len T.len <| JA_cons <| jo cl.cells <| jf cl.mach 0 0 rfl rfl h2 ⟨ce, ced, 1, _, _, rfl, rfl, rfl, JA_nil <| RC_len (.ol 2 rfl) <| RJ_sub ⟨[0, 1, 2], by decide, ?_⟩⟩
  have e : (iR free.reverse).length = free.length := by simp [iR]
  rw [e]
  exact q
theorem ok_mnode (F : MethP K "node" "Machine.node" (mth 2) f fd) (M : Meth K c.mach "node" f) (cl : ClA K c) (T : Tx mg) (c1 : CalTake P w K mg base c.cells) : CalMNode P w K mg base c := by
  refine ⟨f, fd, fnG_of F scNodeM (fun cdv A outer s H as Φ hr hs hl => ?_), M, F.bindsN fun _ _ _ _ _ _ us hl => match us, hl with | [_, _, _], _ => rfl⟩
  obtain ⟨m, md, cc, cd, kn, ce, ced, fl, nd, l, fs, xs, ins, free, ns, made, x, k, rfl, l1, l2, l3, l4, lb, hv, k1, k2, nn, nl, q⟩ := hs
  have hu := hu_of hr.room
  refine JSs_cons <| JS_asg 3 scNodeM.nd <| J_cm c1 cl.cells.cls hr <| jf cl.mach 0 0 rfl rfl l2 ⟨ce, ced, 3, _, rfl, rfl, rfl, JA_cons <| J_ix ix_seq <| J_dget hu <| jo cl.code <| jf cl.mach 0 0 rfl rfl l1 ⟨cc, cd, 1, _, _, rfl, rfl, rfl, J_name 1 rfl ⟨kn, _, .inr x, _, 2, rfl, rfl, rfl, hv, J_int <| RJ_ix (xs := [.str x, .int k, .int 0]) .dt rfl <| JA_nil ?_⟩⟩⟩
  refine ⟨[3, 4], by decide, by simp, rfl, ce, ced, fl, k, free, rfl, k1, k2, by simp, rfl, ?_⟩
  refine JSs_at ⟨[some (.adr m), some (.str x), some (.adr l), some (.tuple (iD (free.take k)))], [(m, .ins c.mach md fs), (cc, codeO c.code cd kn xs ins), (kn, .dk (knownR xs)), (ce, cellsO c.cells ced fl), (fl, .lst (iR (free.drop k).reverse)), (nd, .dk (nodesR ns)), (l, .lst [])]⟩ rfl ?_
  refine JSs_cons <| JS_if <| JT_cmp op_isN (by rfl) <| J_name 3 rfl <| J_none <| RJ_isN ⟨false, rfl, nofun, fun _ => JSs_nil ?_⟩
  refine JSs_cons <| JS_fldAug <| J_name 0 rfl ⟨m, c.mach, md, made, 0, fs, rfl, rfl, cl.mach.cls, cl.mach.no _ (by decide), Nat.ble_eq_true_of_le (Nat.le_trans (Nat.le_of_ble_eq_true lb) (by decide)), l4, J_int ⟨1, rfl, rfl, ?_⟩⟩
  refine JSs_at ⟨[some (.adr m), some (.str x), some (.adr l), some (.tuple (iD (free.take k)))], [(m, .ins c.mach md (putR "made" (.int (made + 1)) fs)), (cc, codeO c.code cd kn xs ins), (kn, .dk (knownR xs)), (ce, cellsO c.cells ced fl), (fl, .lst (iR (free.drop k).reverse)), (nd, .dk (nodesR ns)), (l, .lst [])]⟩ rfl ?_
  have l3' : (putR "made" (.int (made + 1)) fs).lookup ("nodes" : Str) = some (.adr nd) := by rw [lookup_put, if_neg (by decide), l3]
  have l4' : (putR "made" (.int (made + 1)) fs).lookup ("made" : Str) = some (.int (made + 1)) := by rw [lookup_put, if_pos rfl]
  refine JSs_cons <| JS_dput hu <| J_tup <| JA_cons <| J_name 1 rfl <| JA_cons <| J_callTy call_tuple_of T.tuple <| JA_cons <| J_name 2 rfl <| JA_nil <| RC_tupleL (ds := []) (.ol 6 rfl) <| JA_cons <| J_name 3 rfl <| JA_nil ⟨[.str x, .tuple [], .tuple (iD (free.take k))], rfl, rfl, jf cl.mach 0 0 rfl rfl l3' <| jf cl.mach 0 0 rfl rfl l4' ⟨nd, _, .inl (made + 1), 5, rfl, rfl, rfl, ?_, ?_⟩⟩
  · simp [nodesR]
    omega
  refine JSs_one <| JS_ret <| jf cl.mach 0 0 rfl rfl l4' ⟨[0, 1, 2, 3, 4, 5, 6], by decide, ?_⟩
  rw [← put_node nn] at q
  exact q
end
end K71
end

section
open PySem PySem.Spec PyProof.Rows L2 DL SH
/-! K71J: machines: loading. -/
namespace K71
def oneT : PyData := .tuple [.tuple [.str "na", .tuple []]]
def spLoaded (c : CA) : Spc := fun as Φ => ∃ (m md cc cd kn ce ced fl nd : Addr) (fs : List (Str × Rv)) (xs : List (Str × Int)) (ins : List D) (free : List Int) (ns : List ND) (made : Int) (k : Nat),
  as = ⟨[some (.adr m), some (.dat oneT)], [(m, .ins c.mach md fs), (cc, codeO c.code cd kn xs ins), (kn, .dk (knownR xs)), (ce, cellsO c.cells ced fl), (fl, .lst (iR free.reverse)), (nd, .dk (nodesR ns))]⟩ ∧
  fs.lookup ("code" : Str) = some (.adr cc) ∧ fs.lookup ("free" : Str) = some (.adr ce) ∧ fs.lookup ("nodes" : Str) = some (.adr nd) ∧ fs.lookup ("made" : Str) = some (.int made) ∧ Nat.ble fs.length 800 = true ∧ fs.lookup ("node" : Str) = none ∧
  valR (knownR xs) (Sum.inr "na" : Key) = some (.dat (nodeD "na" k)) ∧ k ≤ free.length ∧ k ≤ 1000 ∧ made + 1 ∉ ns.map (·.1) ∧ ns.length < 1000 ∧
  Φ (.int (made + 1)) [(m, .ins c.mach md (putR "made" (.int (made + 1)) fs)), (cc, codeO c.code cd kn xs ins), (kn, .dk (knownR xs)), (ce, cellsO c.cells ced fl), (fl, .lst (iR (free.drop k).reverse)), (nd, .dk (nodesR (ns ++ [(made + 1, ("na" : Str), free.take k)])))]
section
variable {P : Program} {w : World} {K : PySem.W.Frag} {mg : Str → Option Value} {base : Heap} {f : Addr} {fd : FuncData} {c : CA}
abbrev CalLoaded (P : Program) (w : World) (K : PySem.W.Frag) (mg : Str → Option Value) (base : Heap) (c : CA) : Prop := CalM P w K mg base c.mach "loaded" 3 ["self", "rows"] (spLoaded c)
abbrev nLoaded : List Str := ["self", "rows", "done", "line", "at", "is_ready", "name", "below", "one", "many", "some", "node"]
theorem scLoaded : FnScope nLoaded ["self", "rows"] (defScope (mth 1)) := ⟨rfl, rfl, rfl, by decide +kernel, rfl, by decide +kernel, by decide +kernel⟩
theorem ok_loaded (F : MethP K "loaded" "Machine.loaded" (mth 1) f fd) (M : Meth K c.mach "loaded" f) (cl : ClA K c) (T : Tx mg) (c1 : CalMNode P w K mg base c) : CalLoaded P w K mg base c := by
  refine ⟨f, fd, fnG_of F scLoaded (fun cdv A outer s H as Φ hr hs hl => ?_), M, F.bindsN fun _ _ _ _ _ _ us hl => match us, hl with | [_, _], _ => rfl⟩
  obtain ⟨m, md, cc, cd, kn, ce, ced, fl, nd, fs, xs, ins, free, ns, made, k, rfl, l1, l2, l3, l4, lb, l5, hv, k1, k2, nn, nl, q⟩ := hs
  have hu := hu_of hr.room
  refine JSs_cons <| JS_par 2 3 rfl scLoaded.nd <| JA_cons <| J_lst <| JA_nil ⟨rfl, fun dn => ?_⟩
  refine JA_cons <| J_lst <| JA_cons <| J_tup <| JA_cons <| J_bin op_sub <| J_callB call_len T.len <| JA_cons <| J_name 1 rfl <| JA_nil <| RC_len .dt <| J_int <| RJ_sub <| JA_cons <| J_bool <| JA_nil ⟨[.int 0, .bool false], rfl, rfl, JA_nil ⟨rfl, fun ln => JA_nil ⟨_, _, rfl, ?_⟩⟩⟩
  let B : Obs := [(m, .ins c.mach md fs), (cc, codeO c.code cd kn xs ins), (kn, .dk (knownR xs)), (ce, cellsO c.cells ced fl), (fl, .lst (iR free.reverse)), (nd, .dk (nodesR ns))]
  let B' : Obs := [(m, .ins c.mach md (putR "made" (.int (made + 1)) fs)), (cc, codeO c.code cd kn xs ins), (kn, .dk (knownR xs)), (ce, cellsO c.cells ced fl), (fl, .lst (iR (free.drop k).reverse)), (nd, .dk (nodesR (ns ++ [(made + 1, ("na" : Str), free.take k)])))]
  refine JSs_cons <| JS_while PassesOwn.never (n := 2) (fun n δ => (n = 2 ∧ ∃ z, δ = ⟨[some (.adr m), some (.dat oneT), some (.adr dn), some (.adr ln)] ++ z, B ++ [(dn, .lst []), (ln, .lst [.tuple [.int 0, .bool false]])]⟩ ∧ z.length = 8) ∨
    (n = 1 ∧ ∃ z, δ = ⟨[some (.adr m), some (.dat oneT), some (.adr dn), some (.adr ln)] ++ z, B ++ [(dn, .lst []), (ln, .lst [.tuple [.int 0, .bool true]])]⟩ ∧ z.length = 8) ∨
    (n = 0 ∧ ∃ d z, δ = ⟨[some (.adr m), some (.dat oneT), some (.adr d), some (.adr ln)] ++ z, B' ++ [(d, .lst [.int (made + 1)]), (ln, .lst [])]⟩ ∧ z.length = 8)) (.inl ⟨rfl, [none, none, none, none, none, none, none, none], rfl, rfl⟩) ?_
  rintro n δ (⟨rfl, z, rfl, hz⟩ | ⟨rfl, z, rfl, hz⟩ | ⟨rfl, dn, z, rfl, hz⟩)
  · match z, hz with
    | [z4, z5, z6, z7, z8, z9, z10, z11], _ =>
      refine JT_cmp (op_neE (Nat.lt_of_succ_lt hu)) (by rfl) <| J_name 3 rfl <| J_lst <| JA_nil ⟨rfl, fun jk => RJ_eqE (.ol 7 rfl) (.ol 8 rfl) ⟨true, rfl, fun _ => ?_, nofun⟩⟩
      refine JSs_pick [0, 1, 2, 3, 4, 5, 6, 7] (by decide) ?_
      refine JSs_at ⟨[some (.adr m), some (.dat oneT), some (.adr dn), some (.adr ln), z4, z5, z6, z7, z8, z9, z10, z11], B ++ [(dn, .lst []), (ln, .lst [.tuple [.int 0, .bool false]])]⟩ rfl ?_
      refine JSs_cons <| JS_asgG [4, 5] <| J_pop <| J_name 3 rfl ⟨ln, _, _, 7, rfl, rfl, rfl, JG_tup (ds := [.int 0, .bool false]) rfl <| JGs_cons <| JG_name 4 scLoaded.nd <| JGs_cons <| JG_name 5 scLoaded.nd <| JGs_nil ?_⟩
      refine JSs_cons <| JS_asgG [6, 7] <| J_ix ix_seq <| J_name 1 rfl <| J_name 4 rfl <| RJ_ix (xs := [.tuple [.str "na", .tuple []]]) .dt rfl <| JG_tup (ds := [.str "na", .tuple []]) rfl <| JGs_cons <| JG_name 6 scLoaded.nd <| JGs_cons <| JG_name 7 scLoaded.nd <| JGs_nil ?_
      refine JSs_at ⟨[some (.adr m), some (.dat oneT), some (.adr dn), some (.adr ln), some (.int 0), some (.bool false), some (.str "na"), some (.tuple []), z8, z9, z10, z11], B ++ [(dn, .lst []), (ln, .lst [])]⟩ rfl ?_
      refine JSs_cons <| JS_if <| JT_not <| JT_val <| J_name 5 rfl ⟨false, rfl, fun _ => ?_, nofun⟩
      refine JSs_cons <| JS_expr <| J_append <| J_name 3 rfl ⟨ln, _, 7, rfl, rfl, J_tup <| JA_cons <| J_name 4 rfl <| JA_cons <| J_bool <| JA_nil ⟨[.int 0, .bool true], rfl, rfl, 7, [], rfl, by decide, ?_⟩⟩
      refine JSs_cons <| JS_expr <| J_extendL <| J_name 3 rfl ⟨ln, _, 7, rfl, rfl, ?_⟩
      refine J_lcP rfl scLoaded.nd (blkOk_by (own := [("one", 8)]) (N := nLoaded) (sc := defScope (mth 1)) (by decide +kernel)) <| JI_dat <| J_revT <| J_name 7 rfl ⟨[], rfl, .tuple [], [], rfl, rfl, fun _ => true, fun r => r, trivial, no_mem, fun sl => ⟨7, 8, sl, _, [], rfl, rfl, rfl, by decide, ?_⟩⟩
      refine JSs_pick [0, 1, 2, 3, 4, 5, 6, 7] (by decide) ?_
      refine JSs_one <| JS_cont ⟨1, by decide, .inr (.inl ⟨rfl, _, rfl, rfl⟩)⟩
  · match z, hz with
    | [z4, z5, z6, z7, z8, z9, z10, z11], _ =>
      refine JT_cmp (op_neE (Nat.lt_of_succ_lt hu)) (by rfl) <| J_name 3 rfl <| J_lst <| JA_nil ⟨rfl, fun jk => RJ_eqE (.ol 7 rfl) (.ol 8 rfl) ⟨true, rfl, fun _ => ?_, nofun⟩⟩
      refine JSs_pick [0, 1, 2, 3, 4, 5, 6, 7] (by decide) ?_
      refine JSs_at ⟨[some (.adr m), some (.dat oneT), some (.adr dn), some (.adr ln), z4, z5, z6, z7, z8, z9, z10, z11], B ++ [(dn, .lst []), (ln, .lst [.tuple [.int 0, .bool true]])]⟩ rfl ?_
      refine JSs_cons <| JS_asgG [4, 5] <| J_pop <| J_name 3 rfl ⟨ln, _, _, 7, rfl, rfl, rfl, JG_tup (ds := [.int 0, .bool true]) rfl <| JGs_cons <| JG_name 4 scLoaded.nd <| JGs_cons <| JG_name 5 scLoaded.nd <| JGs_nil ?_⟩
      refine JSs_cons <| JS_asgG [6, 7] <| J_ix ix_seq <| J_name 1 rfl <| J_name 4 rfl <| RJ_ix (xs := [.tuple [.str "na", .tuple []]]) .dt rfl <| JG_tup (ds := [.str "na", .tuple []]) rfl <| JGs_cons <| JG_name 6 scLoaded.nd <| JGs_cons <| JG_name 7 scLoaded.nd <| JGs_nil ?_
      refine JSs_at ⟨[some (.adr m), some (.dat oneT), some (.adr dn), some (.adr ln), some (.int 0), some (.bool true), some (.str "na"), some (.tuple []), z8, z9, z10, z11], B ++ [(dn, .lst []), (ln, .lst [])]⟩ rfl ?_
      refine JSs_cons <| JS_if <| JT_not <| JT_val <| J_name 5 rfl ⟨true, rfl, nofun, fun _ => JSs_nil ?_⟩
      refine JSs_cons <| JS_asg 9 scLoaded.nd <| J_bin op_sub <| J_callB call_len T.len <| JA_cons <| J_name 2 rfl <| JA_nil <| RC_len (xs := []) (.ol 6 rfl) <| J_callB call_len T.len <| JA_cons <| J_name 7 rfl <| JA_nil <| RC_len (xs := []) .dt <| RJ_sub ?_
      refine JSs_cons <| JS_par 10 2 rfl scLoaded.nd <| JA_cons <| J_sliceL <| J_name 2 rfl <| JP_some <| J_name 9 rfl ⟨0, rfl, JP_none ⟨[], .ol 6 rfl, fun sm => JA_cons <| J_sliceL <| J_name 2 rfl <| JP_none <| JP_some <| J_name 9 rfl ⟨0, rfl, [], .ol 6 rfl, fun d2 => JA_nil ⟨_, _, rfl, ?_⟩⟩⟩⟩
      refine JSs_at ⟨[some (.adr m), some (.dat oneT), some (.adr d2), some (.adr ln), some (.int 0), some (.bool true), some (.str "na"), some (.tuple []), z8, some (.int 0), some (.adr sm), z11], B ++ [(dn, .lst []), (ln, .lst []), (sm, .lst []), (d2, .lst [])]⟩ rfl ?_
      refine JSs_cons <| JS_asg 11 scLoaded.nd <| J_cm c1 cl.mach.cls hr <| J_name 0 rfl ⟨m, md, 0, _, rfl, rfl, l5, JA_cons <| J_name 6 rfl <| JA_cons <| J_name 10 rfl <| JA_nil ⟨[0, 1, 2, 3, 4, 5, 8], by decide, by simp [B], rfl, m, md, cc, cd, kn, ce, ced, fl, nd, sm, fs, xs, ins, free, ns, made, "na", k, rfl, l1, l2, l3, l4, lb, hv, k1, k2, nn, nl, by simp, rfl, ?_⟩⟩
      refine JSs_at ⟨[some (.adr m), some (.dat oneT), some (.adr d2), some (.adr ln), some (.int 0), some (.bool true), some (.str "na"), some (.tuple []), z8, some (.int 0), some (.adr sm), some (.int (made + 1))], B' ++ [(dn, .lst []), (ln, .lst []), (sm, .lst []), (d2, .lst [])]⟩ rfl ?_
      refine JSs_cons <| JS_if <| JT_cmp op_isN (by rfl) <| J_name 11 rfl <| J_none <| RJ_isN ⟨false, rfl, nofun, fun _ => JSs_nil ?_⟩
      refine JSs_cons <| JS_expr <| J_append <| J_name 2 rfl ⟨d2, _, 9, rfl, rfl, J_name 11 rfl ⟨9, [], rfl, by decide, ?_⟩⟩
      refine JSs_pick [0, 1, 2, 3, 4, 5, 9, 7] (by decide) ?_
      refine JSs_nil ⟨0, by decide, .inr (.inr ⟨rfl, d2, _, rfl, rfl⟩)⟩
  · match z, hz with
    | [z4, z5, z6, z7, z8, z9, z10, z11], _ =>
      refine JT_cmp (op_neE (Nat.lt_of_succ_lt hu)) (by rfl) <| J_name 3 rfl <| J_lst <| JA_nil ⟨rfl, fun jk => RJ_eqE (.ol 7 rfl) (.ol 8 rfl) ⟨false, rfl, nofun, fun _ => ?_⟩⟩
      exact JSs_one <| JS_ret <| J_ix ix_seq <| J_name 2 rfl <| J_neg <| J_int ⟨1, rfl, RJ_ix (xs := [.int (made + 1)]) (.ol 6 rfl) rfl ⟨[0, 1, 2, 3, 4, 5], by decide, q⟩⟩
end
end K71
end

section
open PySem PySem.Spec PyProof.Rows L2 DL SH
/-! K71K: machines: __init__. -/
namespace K71
/-- where the parts of a machine lie -/
structure MA where
  (m md cc cd kn ce ced fl nd ln t td rg mo : Addr)
/-- the state of a machine: constructors, instructions, free cells (the next first), nodes, how many were made, place, registers, frame, moments -/
structure MS where
  (xs : List (Str × Int)) (ins : List PyData) (free : List Int) (ns : List ND) (made place : Int) (regs : List (Int × Int)) (frame : Option (List Int)) (moms : List Int)
def frD : Option (List Int) → PyData
  | none => .none
  | some cs => .tuple (iD cs)
def regsR (rs : List (Int × Int)) : List (Key × Rv) := rs.map fun q => ((Sum.inl q.1 : Key), Rv.int q.2)
def machF (A : MA) (s : MS) : List (Str × Rv) := [("code", .adr A.cc), ("room", .int 200), ("free", .adr A.ce), ("nodes", .adr A.nd), ("made", .int s.made), ("place", .int s.place), ("status", .str "runs"), ("why", .none), ("given", .none), ("line", .adr A.ln), ("moments", .adr A.mo)]
/-- a machine as objects -/
def mob (c : CA) (A : MA) (s : MS) : Obs := [(A.m, .ins c.mach A.md (machF A s)), (A.cc, codeO c.code A.cd A.kn s.xs s.ins), (A.kn, .dk (knownR s.xs)), (A.ce, cellsO c.cells A.ced A.fl), (A.fl, .lst (iR s.free.reverse)),
  (A.nd, .dk (nodesR s.ns)), (A.ln, .lst [.adr A.t]), (A.t, turnO c.turn A.td A.rg (frD s.frame)), (A.rg, .dk (regsR s.regs)), (A.mo, .lst (iR s.moms))]
def free0 : List Int := (List.range 200).map fun (i : Nat) => (i : Int)
theorem down_free : downD ((200 : Nat) - 1 : Int) 200 = iR free0.reverse := by
  unfold downD iR free0
  apply List.ext_getElem
  · simp
  · intro i h1 h2
    simp at h1
    simp
    omega
def spInit (c : CA) : Spc := fun as Φ => ∃ (m md cc cd kn : Addr) (xs : List (Str × Int)) (ins : List D) (k : Nat),
  as = ⟨[some (.adr m), some (.adr cc), some (.int 200), some (.dat oneD)], [(m, .ins c.mach md []), (cc, codeO c.code cd kn xs ins), (kn, .dk (knownR xs))]⟩ ∧
  valR (knownR xs) (Sum.inr "na" : Key) = some (.dat (nodeD "na" k)) ∧ k ≤ 200 ∧
  ∀ (A : MA) (mo : List Int), A.m = m → A.md = md → A.cc = cc → A.cd = cd → A.kn = kn → mo.length = 1 → Φ .none (mob c A ⟨xs, ins, free0.drop k, [(1, ("na" : Str), free0.take k)], 1, 0, [(0, 1)], none, mo⟩)
section
variable {P : Program} {w : World} {K : PySem.W.Frag} {mg : Str → Option Value} {base : Heap} {f : Addr} {fd : FuncData} {c : CA}
abbrev CalInit (P : Program) (w : World) (K : PySem.W.Frag) (mg : Str → Option Value) (base : Heap) (c : CA) : Prop := CalN P w K mg base "Machine" c.mach 5 ["self", "code", "room", "rows"] (spInit c)
theorem scInit : FnScope ["self", "code", "room", "rows", "root"] ["self", "code", "room", "rows"] (defScope (mth 0)) := ⟨rfl, rfl, rfl, by decide +kernel, rfl, by decide +kernel, by decide +kernel⟩
theorem ok_init (F : MethP K "__init__" "Machine.__init__" (mth 0) f fd) (M : Mk K c.mach f) (m : mg "Machine" = some (.ref c.mach)) (cl : ClA K c) (T : Tx mg) (TC : Tc mg) (c1 : CalNeed P w K mg base c.code) (c2 : CalWithin P w K mg base) (c3 : CalRowsOf P w K mg base c.code) (c4 : CalMany P w K mg base)
    (c5 : CalCells P w K mg base c.cells) (c6 : ∀ n, CalFix P w K mg base n) (c7 : CalLoaded P w K mg base c) (c8 : CalTaken P w K mg base c) (c9 : CalTurn P w K mg base c.turn) : CalInit P w K mg base c := by
  refine ⟨f, fd, fnG_of F scInit (fun cdv A outer s H as Φ hr hs hl => ?_), M, m, F.bindsN fun _ _ _ _ _ _ us hl => match us, hl with | [_, _, _, _], _ => rfl⟩
  obtain ⟨m, md, cc, cd, kn, xs, ins, k, rfl, hv, hk, q⟩ := hs
  obtain ⟨t1, C1⟩ := TC.mrm
  obtain ⟨t2, C2⟩ := TC.mld
  obtain ⟨t3, C3⟩ := TC.rn
  refine JSs_cons <| JS_expr <| J_cH c1 hr <| JA_cons <| J_name 1 rfl <| JA_nil ⟨[1], by decide, by simp, rfl, cc, cd, _, rfl, by simp, rfl, ?_⟩
  refine JSs_at ⟨[some (.adr m), some (.adr cc), some (.int 200), some (.dat oneD), none], [(m, .ins c.mach md []), (cc, codeO c.code cd kn xs ins), (kn, .dk (knownR xs))]⟩ rfl ?_
  refine JSs_cons <| JS_if <| JT_not <| JT_val <| J_c3 c2 hr <| JA_cons <| J_name 2 rfl <| JA_cons <| J_int <| JA_cons <| J_gint C1 <| JA_nil ⟨_, _, _, rfl, rfl, ⟨_, _, _, rfl, rfl, rfl⟩, true, rfl, nofun, fun _ => JSs_nil ?_⟩
  refine JSs_cons <| JS_if <| JT_w <| JW_or <| JT_not <| JT_val <| J_cH c3 hr <| JA_cons <| J_name 1 rfl <| JA_cons <| J_name 3 rfl <| JA_nil ⟨[1, 2], by decide, by simp, rfl, cc, cd, kn, xs, ins, k, rfl, hv, by simp, rfl, true, rfl, nofun, fun _ => ?_⟩
  refine JW_or1 <| JT_cmp op_gt (by rfl) <| J_cH c4 hr <| JA_cons <| J_name 3 rfl <| JA_nil <| hand0 rfl ⟨rfl, rfl, ?_⟩ fun as Φ Ψ i ⟨a, b⟩ => ⟨a, i _ _ b⟩
  refine J_gint C2 <| RJ_gt ⟨false, rfl, nofun, fun _ => JSs_nil ?_⟩
  refine JSs_at ⟨[some (.adr m), some (.adr cc), some (.int 200), some (.dat oneD), none], [(m, .ins c.mach md []), (cc, codeO c.code cd kn xs ins), (kn, .dk (knownR xs))]⟩ rfl ?_
  refine JSs_cons <| JS_asgG [] <| J_tupO <| JA_cons <| J_name 1 rfl <| JA_cons <| J_name 2 rfl <| JA_nil ⟨rfl, fun tp => ?_⟩
  refine JG_tupO 3 rfl rfl <| JGs_cons <| JG_fld <| J_name 0 rfl ⟨m, c.mach, md, 0, _, rfl, rfl, cl.mach.cls, cl.mach.no _ (by decide), rfl, JGs_cons <| JG_fld <| J_name 0 rfl ⟨m, c.mach, md, 0, _, rfl, rfl, cl.mach.cls, cl.mach.no _ (by decide), rfl, JGs_nil ?_⟩⟩
  refine JSs_pick [0, 1, 2] (by decide) ?_
  refine JSs_at ⟨[some (.adr m), some (.adr cc), some (.int 200), some (.dat oneD), none], [(m, .ins c.mach md [("code", .adr cc), ("room", .int 200)]), (cc, codeO c.code cd kn xs ins), (kn, .dk (knownR xs))]⟩ rfl ?_
  refine JSs_cons <| jset cl.mach 0 0 (a := m) (dx := md) (fs := [("code", .adr cc), ("room", .int 200)]) <| J_cn c5 hr <| JA_cons <| J_name 2 rfl <| JA_nil fun ce ced => ⟨[3], by decide, by simp, rfl, ce, ced, 200, rfl, by decide, fun fl => ⟨by simp, rfl, rfl, rfl, rfl, rfl, ?_⟩⟩
  rw [down_free]
  refine JSs_at ⟨[some (.adr m), some (.adr cc), some (.int 200), some (.dat oneD), none], [(m, .ins c.mach md [("code", .adr cc), ("room", .int 200), ("free", .adr ce)]), (cc, codeO c.code cd kn xs ins), (kn, .dk (knownR xs)), (ce, cellsO c.cells ced fl), (fl, .lst (iR free0.reverse))]⟩ rfl ?_
  refine JSs_cons <| JS_asgG [] <| J_tupO <| JA_cons <| J_dic0 fun nd => JA_cons <| J_int <| JA_nil ⟨rfl, fun tp => ?_⟩
  refine JG_tupO 6 rfl rfl <| JGs_cons <| JG_fld <| J_name 0 rfl ⟨m, c.mach, md, 0, _, rfl, rfl, cl.mach.cls, cl.mach.no _ (by decide), rfl, JGs_cons <| JG_fld <| J_name 0 rfl ⟨m, c.mach, md, 0, _, rfl, rfl, cl.mach.cls, cl.mach.no _ (by decide), rfl, JGs_nil ?_⟩⟩
  refine JSs_pick [0, 1, 2, 3, 4, 5] (by decide) ?_
  refine JSs_at ⟨[some (.adr m), some (.adr cc), some (.int 200), some (.dat oneD), none], [(m, .ins c.mach md [("code", .adr cc), ("room", .int 200), ("free", .adr ce), ("nodes", .adr nd), ("made", .int 0)]), (cc, codeO c.code cd kn xs ins), (kn, .dk (knownR xs)), (ce, cellsO c.cells ced fl), (fl, .lst (iR free0.reverse)), (nd, .dk [])]⟩ rfl ?_
  refine JSs_cons <| JS_asgG [] <| J_tup <| JA_cons <| jf cl.code 1 1 rfl rfl rfl <| JA_cons <| J_gstr C3 <| JA_cons <| J_none <| JA_cons <| J_none <| JA_nil ⟨[.int 0, .str "runs", .none, .none], rfl, rfl, ?_⟩
  refine JG_tup rfl <| JGs_cons <| JG_fld <| J_name 0 rfl ⟨m, c.mach, md, 0, _, rfl, rfl, cl.mach.cls, cl.mach.no _ (by decide), rfl, JGs_cons <| JG_fld <| J_name 0 rfl ⟨m, c.mach, md, 0, _, rfl, rfl, cl.mach.cls, cl.mach.no _ (by decide), rfl, JGs_cons <| JG_fld <| J_name 0 rfl ⟨m, c.mach, md, 0, _, rfl, rfl, cl.mach.cls, cl.mach.no _ (by decide), rfl, JGs_cons <| JG_fld <| J_name 0 rfl ⟨m, c.mach, md, 0, _, rfl, rfl, cl.mach.cls, cl.mach.no _ (by decide), rfl, JGs_nil ?_⟩⟩⟩⟩
  refine JSs_at ⟨[some (.adr m), some (.adr cc), some (.int 200), some (.dat oneD), none], [(m, .ins c.mach md [("code", .adr cc), ("room", .int 200), ("free", .adr ce), ("nodes", .adr nd), ("made", .int 0), ("place", .int 0), ("status", .str "runs"), ("why", .none), ("given", .none)]), (cc, codeO c.code cd kn xs ins), (kn, .dk (knownR xs)), (ce, cellsO c.cells ced fl), (fl, .lst (iR free0.reverse)), (nd, .dk [])]⟩ rfl ?_
  refine JSs_cons <| jset cl.mach 0 0 (a := m) (dx := md) (fs := [("code", .adr cc), ("room", .int 200), ("free", .adr ce), ("nodes", .adr nd), ("made", .int 0), ("place", .int 0), ("status", .str "runs"), ("why", .none), ("given", .none)]) <| J_lst <| JA_nil ⟨rfl, fun l0 => ⟨rfl, rfl, rfl, ?_⟩⟩
  refine JSs_at ⟨[some (.adr m), some (.adr cc), some (.int 200), some (.dat oneD), none], [(m, .ins c.mach md [("code", .adr cc), ("room", .int 200), ("free", .adr ce), ("nodes", .adr nd), ("made", .int 0), ("place", .int 0), ("status", .str "runs"), ("why", .none), ("given", .none), ("line", .adr l0)]), (cc, codeO c.code cd kn xs ins), (kn, .dk (knownR xs)), (ce, cellsO c.cells ced fl), (fl, .lst (iR free0.reverse)), (nd, .dk []), (l0, .lst [])]⟩ rfl ?_
  have dp : dep oneD ≤ 3 := by simp [oneD, dep, depAll]
  have okd : okD oneD = true := by
    have o1 : okD (.str "na") = true := okS _ (by decide +kernel)
    simp [oneD, okD, okAll] at o1 ⊢
    exact o1
  have efx : fixD oneD = oneT := by simp [oneD, oneT, fixD, fixAll]
  have lfr : free0.length = 200 := by simp [free0]
  refine JSs_cons <| JS_asg 4 scInit.nd <| J_cm c7 cl.mach.cls hr <| J_name 0 rfl ⟨m, md, 0, _, rfl, rfl, rfl, JA_cons <| J_c1 (c6 3) hr <| JA_cons <| J_name 3 rfl <| JA_nil ⟨_, rfl, rfl, ⟨dp, okd⟩, JA_nil ?_⟩⟩
  rw [efx]
  refine ⟨[0, 1, 2, 3, 4, 5], by decide, by simp, rfl, m, md, cc, cd, kn, ce, ced, fl, nd, [("code", .adr cc), ("room", .int 200), ("free", .adr ce), ("nodes", .adr nd), ("made", .int 0), ("place", .int 0), ("status", .str "runs"), ("why", .none), ("given", .none), ("line", .adr l0)], xs, ins, free0, [], 0, k, rfl, rfl, rfl, rfl, rfl, rfl, rfl, hv, by rw [lfr]; exact hk, by omega, by simp, by simp, by simp, rfl, ?_⟩
  refine JSs_at ⟨[some (.adr m), some (.adr cc), some (.int 200), some (.dat oneD), some (.int 1)], [(m, .ins c.mach md [("code", .adr cc), ("room", .int 200), ("free", .adr ce), ("nodes", .adr nd), ("made", .int 1), ("place", .int 0), ("status", .str "runs"), ("why", .none), ("given", .none), ("line", .adr l0)]), (cc, codeO c.code cd kn xs ins), (kn, .dk (knownR xs)), (ce, cellsO c.cells ced fl), (fl, .lst (iR (free0.drop k).reverse)), (nd, .dk (nodesR [(1, ("na" : Str), free0.take k)])), (l0, .lst [])]⟩ rfl ?_
  refine JSs_cons <| jset cl.mach 0 0 (a := m) (dx := md) (fs := [("code", .adr cc), ("room", .int 200), ("free", .adr ce), ("nodes", .adr nd), ("made", .int 1), ("place", .int 0), ("status", .str "runs"), ("why", .none), ("given", .none), ("line", .adr l0)]) <| J_lst <| JA_cons <| J_cm0 c8 cl.mach.cls hr <| J_name 0 rfl ⟨m, md, 0, _, rfl, rfl, rfl, [0, 3, 4], by decide, by simp, rfl, m, md, ce, ced, fl, [("code", .adr cc), ("room", .int 200), ("free", .adr ce), ("nodes", .adr nd), ("made", .int 1), ("place", .int 0), ("status", .str "runs"), ("why", .none), ("given", .none), ("line", .adr l0)], free0.drop k, 200, rfl, rfl, rfl, by simp, rfl, JA_nil ⟨rfl, fun mo => ⟨rfl, rfl, rfl, ?_⟩⟩⟩
  refine JSs_at ⟨[some (.adr m), some (.adr cc), some (.int 200), some (.dat oneD), some (.int 1)], [(m, .ins c.mach md [("code", .adr cc), ("room", .int 200), ("free", .adr ce), ("nodes", .adr nd), ("made", .int 1), ("place", .int 0), ("status", .str "runs"), ("why", .none), ("given", .none), ("line", .adr l0), ("moments", .adr mo)]), (cc, codeO c.code cd kn xs ins), (kn, .dk (knownR xs)), (ce, cellsO c.cells ced fl), (fl, .lst (iR (free0.drop k).reverse)), (nd, .dk (nodesR [(1, ("na" : Str), free0.take k)])), (l0, .lst []), (mo, .lst (iR [200 - ((free0.drop k).length : Nat)]))]⟩ rfl ?_
  refine JSs_one <| JS_if <| JT_cmp op_isN (by rfl) <| J_name 4 rfl <| J_none <| RJ_isN ⟨false, rfl, nofun, fun _ => ?_⟩
  refine JSs_one <| jset cl.mach 0 0 (a := m) (dx := md) (fs := [("code", .adr cc), ("room", .int 200), ("free", .adr ce), ("nodes", .adr nd), ("made", .int 1), ("place", .int 0), ("status", .str "runs"), ("why", .none), ("given", .none), ("line", .adr l0), ("moments", .adr mo)]) <| J_lst <| JA_cons <| J_cn c9 hr <| JA_cons <| J_tup <| JA_cons <| J_name 4 rfl <| JA_nil ⟨[.int 1], rfl, rfl, JA_cons <| J_none <| JA_cons <| J_none <| JA_nil fun t td => ⟨[8], by decide, by simp, rfl, t, td, [1], rfl, fun rg => ⟨by simp, rfl, rfl, JA_nil ⟨rfl, fun ln => ⟨rfl, rfl, rfl, [0, 1, 2, 3, 4, 5, 10, 8, 9, 7], by decide, ?_⟩⟩⟩⟩⟩
  exact q ⟨m, md, cc, cd, kn, ce, ced, fl, nd, ln, t, td, rg, mo⟩ _ rfl rfl rfl rfl rfl rfl
end
end K71
end

section
open PySem PySem.Spec PyProof.Rows L2 DL SH
/-! K71L: machines: small deeds. -/
namespace K71
def MS.at_ (s : MS) (p : Int) : MS := { s with place := p }
/-- the state behind a note -/
def MS.noted (s : MS) : MS := { s with place := s.place + 1, moms := s.moms ++ [(200 : Int) - ((s.free.length : Nat) : Int)] }
def spGo (c : CA) : Spc := fun as Φ => ∃ (A : MA) (s : MS) (p : Int), as = ⟨[some (.adr A.m), some (.int p)], mob c A s⟩ ∧ p < (s.ins.length : Nat) ∧ Φ (.bool true) (mob c A (s.at_ p))
def spNote (c : CA) : Spc := fun as Φ => ∃ (A : MA) (s : MS), as = ⟨[some (.adr A.m), some (.int (s.place + 1))], mob c A s⟩ ∧ s.place + 1 < (s.ins.length : Nat) ∧ s.moms.length < 1000 ∧ Φ (.bool true) (mob c A s.noted)
def spBehind (c : CA) : Spc := fun as Φ => ∃ (A : MA) (s : MS), as = ⟨[some (.adr A.m)], mob c A s⟩ ∧ s.place + 1 < (s.ins.length : Nat) ∧ Φ .none (mob c A s)
section
variable {P : Program} {w : World} {K : PySem.W.Frag} {mg : Str → Option Value} {base : Heap} {f : Addr} {fd : FuncData} {c : CA}
abbrev CalGo (P : Program) (w : World) (K : PySem.W.Frag) (mg : Str → Option Value) (base : Heap) (c : CA) : Prop := CalM P w K mg base c.mach "go_on" 1 ["self", "place"] (spGo c)
abbrev CalNote (P : Program) (w : World) (K : PySem.W.Frag) (mg : Str → Option Value) (base : Heap) (c : CA) : Prop := CalM P w K mg base c.mach "note" 2 ["self", "place"] (spNote c)
abbrev CalBehind (P : Program) (w : World) (K : PySem.W.Frag) (mg : Str → Option Value) (base : Heap) (c : CA) : Prop := CalM P w K mg base c.mach "need_behind" 1 ["self"] (spBehind c)
theorem scGo : FnScope ["self", "place"] ["self", "place"] (defScope (mth 6)) := ⟨rfl, rfl, rfl, by decide +kernel, rfl, by decide +kernel, by decide +kernel⟩
theorem scNote : FnScope ["self", "place"] ["self", "place"] (defScope (mth 7)) := ⟨rfl, rfl, rfl, by decide +kernel, rfl, by decide +kernel, by decide +kernel⟩
theorem scBehind : FnScope ["self"] ["self"] (defScope (mth 9)) := ⟨rfl, rfl, rfl, by decide +kernel, rfl, by decide +kernel, by decide +kernel⟩
theorem ok_go (F : MethP K "go_on" "Machine.go_on" (mth 6) f fd) (M : Meth K c.mach "go_on" f) (cl : ClA K c) (T : Tx mg) : CalGo P w K mg base c := by
  refine ⟨f, fd, fnG_of F scGo (fun cdv A0 outer s0 H as Φ hr hs hl => ?_), M, F.bindsN fun _ _ _ _ _ _ us hl => match us, hl with | [_, _], _ => rfl⟩
  obtain ⟨A, s, p, rfl, hp, q⟩ := hs
  refine JSs_cons <| JS_if <| JT_cmp op_ge (by rfl) <| J_name 1 rfl <| J_callB call_len T.len <| JA_cons <| jo cl.code <| jf cl.mach 0 0 rfl rfl rfl ⟨A.cc, A.cd, 1, _, _, rfl, rfl, rfl, JA_nil <| RC_len .dt <| RJ_ge ⟨false, congrArg Rv.bool (by simp; omega), nofun, fun _ => JSs_nil ?_⟩⟩
  refine JSs_cons <| jset cl.mach 0 0 (a := A.m) (dx := A.md) (fs := machF A s) <| J_name 1 rfl ⟨rfl, rfl, rfl, ?_⟩
  exact JSs_one <| JS_ret <| J_bool ⟨[0, 1, 2, 3, 4, 5, 6, 7, 8, 9], by decide, q⟩
theorem ok_note (F : MethP K "note" "Machine.note" (mth 7) f fd) (M : Meth K c.mach "note" f) (cl : ClA K c) (T : Tx mg) (c1 : CalGo P w K mg base c) (c2 : CalTaken P w K mg base c) : CalNote P w K mg base c := by
  refine ⟨f, fd, fnG_of F scNote (fun cdv A0 outer s0 H as Φ hr hs hl => ?_), M, F.bindsN fun _ _ _ _ _ _ us hl => match us, hl with | [_, _], _ => rfl⟩
  obtain ⟨A, s, rfl, hp, hm, q⟩ := hs
  refine JSs_cons <| JS_expr <| J_cm c1 cl.mach.cls hr <| J_name 0 rfl ⟨A.m, A.md, 0, machF A s, rfl, rfl, rfl, JA_cons <| J_name 1 rfl <| JA_nil ⟨[0, 1, 2, 3, 4, 5, 6, 7, 8, 9], by decide, by simp [mob], rfl, A, s, s.place + 1, rfl, hp, by simp [mob], rfl, ?_⟩⟩
  refine JSs_at ⟨[some (.adr A.m), some (.int (s.place + 1))], mob c A (s.at_ (s.place + 1))⟩ rfl ?_
  refine JSs_cons <| JS_expr <| J_append <| jf cl.mach 0 0 rfl rfl rfl ⟨A.mo, _, 9, rfl, rfl, J_cm0 c2 cl.mach.cls hr <| J_name 0 rfl ⟨A.m, A.md, 0, machF A (s.at_ (s.place + 1)), rfl, rfl, rfl, [0, 3, 4], by decide, by simp [mob], rfl, A.m, A.md, A.ce, A.ced, A.fl, machF A (s.at_ (s.place + 1)), s.free, 200, rfl, rfl, rfl, by simp, rfl, 9, iR s.moms, rfl, by simpa [iR] using Nat.lt_of_lt_of_le hm (by decide), ?_⟩⟩
  refine JSs_one <| JS_ret <| J_bool ⟨[0, 1, 2, 3, 4, 5, 6, 7, 8, 9], by decide, ?_⟩
  have e : mob c A s.noted = mob c A { s with place := s.place + 1, moms := s.moms ++ [(200 : Int) - ((s.free.length : Nat) : Int)] } := rfl
  rw [e] at q
  unfold mob at q
  rw [ints_snoc] at q
  exact q
theorem ok_behind (F : MethP K "need_behind" "Machine.need_behind" (mth 9) f fd) (M : Meth K c.mach "need_behind" f) (cl : ClA K c) (T : Tx mg) : CalBehind P w K mg base c := by
  refine ⟨f, fd, fnG_of F scBehind (fun cdv A0 outer s0 H as Φ hr hs hl => ?_), M, F.bindsN fun _ _ _ _ _ _ us hl => match us, hl with | [_], _ => rfl⟩
  obtain ⟨A, s, rfl, hp, q⟩ := hs
  refine JSs_one <| JS_if <| JT_cmp op_ge (by rfl) <| J_bin op_add <| jf cl.mach 0 0 rfl rfl rfl <| J_int <| RJ_add <| J_callB call_len T.len <| JA_cons <| jo cl.code <| jf cl.mach 0 0 rfl rfl rfl ⟨A.cc, A.cd, 1, _, _, rfl, rfl, rfl, JA_nil <| RC_len .dt <| RJ_ge ⟨false, congrArg Rv.bool (by simp; omega), nofun, fun _ => JSs_nil ⟨[0, 1, 2, 3, 4, 5, 6, 7, 8, 9], by decide, q⟩⟩⟩
end
end K71
end

section
open PySem PySem.Spec PyProof.Rows L2 DL SH
/-! K71M: machines: the deeds. -/
namespace K71
inductive Op where
  | make (r : Int) (x : Str) (n : Nat)
  | opn (r : Int)
  | enter (k : Nat)
  | leave (k : Nat)
def opD : Op → PyData
  | .make r x _ => instD "make" [.int r, .str x, .list []]
  | .opn r => instD "open" [.int r, .list []]
  | .enter k => instD "enter" [.int (k : Nat)]
  | .leave k => instD "leave" [.int (k : Nat)]
def opT : Op → PyData
  | .make r x _ => .tuple [.str "make", .int r, .str x, .tuple []]
  | .opn r => .tuple [.str "open", .int r, .tuple []]
  | .enter k => .tuple [.str "enter", .int (k : Nat)]
  | .leave k => .tuple [.str "leave", .int (k : Nat)]
theorem fix_op (o : Op) : fixD (opD o) = opT o := by
  cases o <;> simp [opD, opT, instD, fixD, fixAll]
/-- what must stand behind an instruction -/
structure MS.Rm (s : MS) : Prop where
  behind : s.place + 1 < (s.ins.length : Nat)
  moms : s.moms.length < 1000
  regs : s.regs.length < 1000
  ns : s.ns.length < 1000
inductive Stp (s : MS) : Op → MS → Prop
  | make (r : Int) (x : Str) (n : Nat) : valR (knownR s.xs) (Sum.inr x : Key) = some (.dat (nodeD x n)) → r ∉ s.regs.map (·.1) → s.made + 1 ∉ s.ns.map (·.1) → n ≤ s.free.length → n ≤ 1000 →
    Stp s (.make r x n) (MS.noted { s with free := s.free.drop n, ns := s.ns ++ [(s.made + 1, x, s.free.take n)], made := s.made + 1, regs := s.regs ++ [(r, s.made + 1)] })
  | opn (r i : Int) (x : Str) (cs : List Int) : valR (regsR s.regs) (Sum.inl r : Key) = some (.int i) → valR (nodesR s.ns) (Sum.inl i : Key) = some (.dat (nodeT x cs)) → s.free.length + cs.length ≤ 1000 →
    Stp s (.opn r) (MS.noted { s with free := cs ++ s.free, ns := s.ns.filter fun q => decide (q.1 ≠ i), regs := s.regs.filter fun q => decide (q.1 ≠ r) })
  | enter (k : Nat) : s.frame = none → k ≤ s.free.length → k ≤ 1000 → Stp s (.enter k) (MS.noted { s with free := s.free.drop k, frame := some (s.free.take k) })
  | leave (cs : List Int) : s.frame = some cs → s.free.length + cs.length ≤ 1000 → Stp s (.leave cs.length) (MS.noted { s with free := cs ++ s.free, frame := none })
def spEnter (c : CA) : Spc := fun as Φ => ∃ (A : MA) (s : MS) (k : Nat), as = ⟨[some (.adr A.m), some (.adr A.t), some (.int (k : Nat))], mob c A s⟩ ∧ s.Rm ∧ s.frame = none ∧ k ≤ s.free.length ∧ k ≤ 1000 ∧
  Φ (.bool true) (mob c A (MS.noted { s with free := s.free.drop k, frame := some (s.free.take k) }))
def spLeave (c : CA) : Spc := fun as Φ => ∃ (A : MA) (s : MS) (cs : List Int), as = ⟨[some (.adr A.m), some (.adr A.t), some (.int (cs.length : Nat))], mob c A s⟩ ∧ s.Rm ∧ s.frame = some cs ∧ s.free.length + cs.length ≤ 1000 ∧
  Φ (.bool true) (mob c A (MS.noted { s with free := cs ++ s.free, frame := none }))
def spApart (c : CA) : Spc := fun as Φ => ∃ (A : MA) (s : MS) (r i : Int) (x : Str) (cs : List Int), as = ⟨[some (.adr A.m), some (.adr A.t), some (.int r), some (.tuple [])], mob c A s⟩ ∧ s.Rm ∧ valR (regsR s.regs) (Sum.inl r : Key) = some (.int i) ∧ valR (nodesR s.ns) (Sum.inl i : Key) = some (.dat (nodeT x cs)) ∧ s.free.length + cs.length ≤ 1000 ∧
  Φ (.bool true) (mob c A (MS.noted { s with free := cs ++ s.free, ns := s.ns.filter fun q => decide (q.1 ≠ i), regs := s.regs.filter fun q => decide (q.1 ≠ r) }))
def spMake (c : CA) : Spc := fun as Φ => ∃ (A : MA) (s : MS) (r : Int) (x : Str) (n : Nat), as = ⟨[some (.adr A.m), some (.adr A.t), some (.dat (opT (.make r x n)))], mob c A s⟩ ∧ s.Rm ∧ valR (knownR s.xs) (Sum.inr x : Key) = some (.dat (nodeD x n)) ∧ r ∉ s.regs.map (·.1) ∧ s.made + 1 ∉ s.ns.map (·.1) ∧ n ≤ s.free.length ∧ n ≤ 1000 ∧
  Φ (.bool true) (mob c A (MS.noted { s with free := s.free.drop n, ns := s.ns ++ [(s.made + 1, x, s.free.take n)], made := s.made + 1, regs := s.regs ++ [(r, s.made + 1)] }))
theorem drop_regs (rs : List (Int × Int)) (r : Int) : dropR (regsR rs) (Sum.inl r : Key) = regsR (rs.filter fun q => decide (q.1 ≠ r)) := by
  unfold dropR regsR
  rw [List.filter_map]
  congr 1
  apply List.filter_congr
  intro q _
  by_cases h : q.1 = r
  · simp [h]
  · have : (Sum.inl q.1 : Key) ≠ Sum.inl r := fun e => h (Sum.inl.inj e)
    simp [h, this]
theorem drop_nodes (ns : List ND) (r : Int) : dropR (nodesR ns) (Sum.inl r : Key) = nodesR (ns.filter fun q => decide (q.1 ≠ r)) := by
  unfold dropR nodesR
  rw [List.filter_map]
  congr 1
  apply List.filter_congr
  intro q _
  by_cases h : q.1 = r
  · simp [h]
  · have : (Sum.inl q.1 : Key) ≠ Sum.inl r := fun e => h (Sum.inl.inj e)
    simp [h, this]
theorem regs_none {rs : List (Int × Int)} {r : Int} (h : r ∉ rs.map (·.1)) : valR (regsR rs) (Sum.inl r : Key) = none := by
  cases e : valR (regsR rs) (Sum.inl r : Key) with
  | none => rfl
  | some v =>
    have := valR_mem e
    unfold regsR at this
    obtain ⟨q, h1, h2⟩ := List.mem_map.mp this
    simp only [Prod.mk.injEq, Sum.inl.injEq] at h2
    exact absurd (List.mem_map.mpr ⟨q, h1, h2.1⟩) h
theorem put_reg {rs : List (Int × Int)} {r v : Int} (h : r ∉ rs.map (·.1)) : putRk (regsR rs) (Sum.inl r : Key) (.int v) = regsR (rs ++ [(r, v)]) := by
  rw [putRk_fresh]
  · simp [regsR]
  · unfold regsR
    rw [List.map_map]
    intro hm
    obtain ⟨q, h1, h2⟩ := List.mem_map.mp hm
    exact h (List.mem_map.mpr ⟨q, h1, Sum.inl.inj h2⟩)
section
variable {P : Program} {w : World} {K : PySem.W.Frag} {mg : Str → Option Value} {base : Heap} {f : Addr} {fd : FuncData} {c : CA}
abbrev CalEnter (P : Program) (w : World) (K : PySem.W.Frag) (mg : Str → Option Value) (base : Heap) (c : CA) : Prop := CalM P w K mg base c.mach "enter" 3 ["self", "turn", "cells"] (spEnter c)
abbrev CalLeave (P : Program) (w : World) (K : PySem.W.Frag) (mg : Str → Option Value) (base : Heap) (c : CA) : Prop := CalM P w K mg base c.mach "leave" 3 ["self", "turn", "cells"] (spLeave c)
abbrev CalApart (P : Program) (w : World) (K : PySem.W.Frag) (mg : Str → Option Value) (base : Heap) (c : CA) : Prop := CalM P w K mg base c.mach "apart" 3 ["self", "turn", "register", "registers"] (spApart c)
abbrev CalMake (P : Program) (w : World) (K : PySem.W.Frag) (mg : Str → Option Value) (base : Heap) (c : CA) : Prop := CalM P w K mg base c.mach "make" 3 ["self", "turn", "row"] (spMake c)
theorem scEnter : FnScope ["self", "turn", "cells", "told"] ["self", "turn", "cells"] (defScope (mth 8)) := ⟨rfl, rfl, rfl, by decide +kernel, rfl, by decide +kernel, by decide +kernel⟩
theorem scLeave : FnScope ["self", "turn", "cells"] ["self", "turn", "cells"] (defScope (mth 14)) := ⟨rfl, rfl, rfl, by decide +kernel, rfl, by decide +kernel, by decide +kernel⟩
theorem scApart : FnScope ["self", "turn", "register", "registers", "node", "name", "below", "cells", "one", "other"] ["self", "turn", "register", "registers"] (defScope (mth 11)) := ⟨rfl, rfl, rfl, by decide +kernel, rfl, by decide +kernel, by decide +kernel⟩
theorem scMake : FnScope ["self", "turn", "row", "below", "one", "node"] ["self", "turn", "row"] (defScope (mth 12)) := ⟨rfl, rfl, rfl, by decide +kernel, rfl, by decide +kernel, by decide +kernel⟩
theorem ok_enter (F : MethP K "enter" "Machine.enter" (mth 8) f fd) (M : Meth K c.mach "enter" f) (cl : ClA K c) (T : Tx mg) (c1 : CalBehind P w K mg base c) (c2 : CalTake P w K mg base c.cells) (c3 : CalNote P w K mg base c) : CalEnter P w K mg base c := by
  refine ⟨f, fd, fnG_of F scEnter (fun cdv A0 outer s0 H as Φ hr hs hl => ?_), M, F.bindsN fun _ _ _ _ _ _ us hl => match us, hl with | [_, _, _], _ => rfl⟩
  obtain ⟨A, ⟨xs, ins, free, ns, made, place, regs, frame, moms⟩, k, rfl, rm, hf, k1, k2, q⟩ := hs
  have hf : frame = none := hf
  subst hf
  refine JSs_cons <| JS_if <| JT_cmp op_notN (by rfl) <| jf cl.turn 1 7 rfl rfl rfl <| J_none <| RJ_notN ⟨false, rfl, nofun, fun _ => JSs_nil ?_⟩
  refine JSs_cons <| JS_expr <| J_cm0 c1 cl.mach.cls hr <| J_name 0 rfl ⟨A.m, A.md, 0, _, rfl, rfl, rfl, [0, 1, 2, 3, 4, 5, 6, 7, 8, 9], by decide, by simp [mob], rfl, A, ⟨xs, ins, free, ns, made, place, regs, none, moms⟩, rfl, rm.behind, by simp [mob], rfl, ?_⟩
  refine JSs_at ⟨[some (.adr A.m), some (.adr A.t), some (.int (k : Nat)), none], mob c A ⟨xs, ins, free, ns, made, place, regs, none, moms⟩⟩ rfl ?_
  refine JSs_cons <| JS_asg 3 scEnter.nd <| J_cm c2 cl.cells.cls hr <| jf cl.mach 0 0 rfl rfl rfl ⟨A.ce, A.ced, 3, _, rfl, rfl, rfl, JA_cons <| J_name 2 rfl <| JA_nil ⟨[3, 4], by decide, by simp [mob], rfl, A.ce, A.ced, A.fl, k, free, rfl, k1, k2, by simp, rfl, ?_⟩⟩
  refine JSs_at ⟨[some (.adr A.m), some (.adr A.t), some (.int (k : Nat)), some (.tuple (iD (free.take k)))], mob c A ⟨xs, ins, free.drop k, ns, made, place, regs, none, moms⟩⟩ rfl ?_
  refine JSs_cons <| JS_if <| JT_cmp op_isN (by rfl) <| J_name 3 rfl <| J_none <| RJ_isN ⟨false, rfl, nofun, fun _ => JSs_nil ?_⟩
  refine JSs_cons <| JS_fld <| J_name 3 rfl <| J_name 1 rfl ⟨A.t, c.turn, A.td, 7, _, rfl, rfl, cl.turn.cls, cl.turn.no _ (by decide), rfl, ?_⟩
  refine JSs_at ⟨[some (.adr A.m), some (.adr A.t), some (.int (k : Nat)), some (.tuple (iD (free.take k)))], mob c A ⟨xs, ins, free.drop k, ns, made, place, regs, some (free.take k), moms⟩⟩ rfl ?_
  exact JSs_one <| JS_ret <| J_cm c3 cl.mach.cls hr <| J_name 0 rfl ⟨A.m, A.md, 0, _, rfl, rfl, rfl, JA_cons <| J_bin op_add <| jf cl.mach 0 0 rfl rfl rfl <| J_int <| RJ_add <| JA_nil ⟨[0, 1, 2, 3, 4, 5, 6, 7, 8, 9], by decide, by simp [mob], rfl, A, ⟨xs, ins, free.drop k, ns, made, place, regs, some (free.take k), moms⟩, rfl, rm.behind, rm.moms, by simp [mob], rfl, [0, 1, 2, 3, 4, 5, 6, 7, 8, 9], by decide, q⟩⟩
theorem ok_leave (F : MethP K "leave" "Machine.leave" (mth 14) f fd) (M : Meth K c.mach "leave" f) (cl : ClA K c) (T : Tx mg) (c1 : CalBehind P w K mg base c) (c2 : CalGive P w K mg base c.cells) (c3 : CalNote P w K mg base c) : CalLeave P w K mg base c := by
  refine ⟨f, fd, fnG_of F scLeave (fun cdv A0 outer s0 H as Φ hr hs hl => ?_), M, F.bindsN fun _ _ _ _ _ _ us hl => match us, hl with | [_, _, _], _ => rfl⟩
  obtain ⟨A, ⟨xs, ins, free, ns, made, place, regs, frame, moms⟩, cs, rfl, rm, hf, k1, q⟩ := hs
  have hf : frame = some cs := hf
  subst hf
  have elen : ((iD cs).map Rv.dat).length = cs.length := by simp [iD]
  refine JSs_cons <| JS_if <| JT_w <| JW_or <| JT_cmp op_isN (by rfl) <| jf cl.turn 1 7 rfl rfl rfl <| J_none <| RJ_isN ⟨false, rfl, nofun, fun _ => ?_⟩
  refine JW_or1 <| JT_cmp op_ne (by rfl) <| J_callB call_len T.len <| JA_cons <| jf cl.turn 1 7 rfl rfl rfl <| JA_nil <| RC_len (xs := (iD cs).map Rv.dat) .dt <| J_name 2 rfl <| RJ_neI ⟨false, congrArg Rv.bool (by rw [elen]; simp), nofun, fun _ => JSs_nil ?_⟩
  refine JSs_cons <| JS_expr <| J_cm0 c1 cl.mach.cls hr <| J_name 0 rfl ⟨A.m, A.md, 0, _, rfl, rfl, rfl, [0, 1, 2, 3, 4, 5, 6, 7, 8, 9], by decide, by simp [mob], rfl, A, ⟨xs, ins, free, ns, made, place, regs, some cs, moms⟩, rfl, rm.behind, by simp [mob], rfl, ?_⟩
  refine JSs_at ⟨[some (.adr A.m), some (.adr A.t), some (.int (cs.length : Nat))], mob c A ⟨xs, ins, free, ns, made, place, regs, some cs, moms⟩⟩ rfl ?_
  refine JSs_cons <| JS_expr <| J_cm c2 cl.cells.cls hr <| jf cl.mach 0 0 rfl rfl rfl ⟨A.ce, A.ced, 3, _, rfl, rfl, rfl, JA_cons <| jf cl.turn 1 7 rfl rfl rfl <| JA_nil ⟨[3, 4], by decide, by simp [mob], rfl, A.ce, A.ced, A.fl, cs, free, rfl, k1, by simp, rfl, ?_⟩⟩
  refine JSs_at ⟨[some (.adr A.m), some (.adr A.t), some (.int (cs.length : Nat))], mob c A ⟨xs, ins, cs ++ free, ns, made, place, regs, some cs, moms⟩⟩ rfl ?_
  refine JSs_cons <| JS_fld <| J_none <| J_name 1 rfl ⟨A.t, c.turn, A.td, 7, _, rfl, rfl, cl.turn.cls, cl.turn.no _ (by decide), rfl, ?_⟩
  refine JSs_at ⟨[some (.adr A.m), some (.adr A.t), some (.int (cs.length : Nat))], mob c A ⟨xs, ins, cs ++ free, ns, made, place, regs, none, moms⟩⟩ rfl ?_
  exact JSs_one <| JS_ret <| J_cm c3 cl.mach.cls hr <| J_name 0 rfl ⟨A.m, A.md, 0, _, rfl, rfl, rfl, JA_cons <| J_bin op_add <| jf cl.mach 0 0 rfl rfl rfl <| J_int <| RJ_add <| JA_nil ⟨[0, 1, 2, 3, 4, 5, 6, 7, 8, 9], by decide, by simp [mob], rfl, A, ⟨xs, ins, cs ++ free, ns, made, place, regs, none, moms⟩, rfl, rm.behind, rm.moms, by simp [mob], rfl, [0, 1, 2, 3, 4, 5, 6, 7, 8, 9], by decide, q⟩⟩
theorem ok_make (F : MethP K "make" "Machine.make" (mth 12) f fd) (M : Meth K c.mach "make" f) (cl : ClA K c) (T : Tx mg) (c1 : CalBehind P w K mg base c) (c2 : CalMNode P w K mg base c) (c3 : CalPut P w K mg base c.turn) (c4 : CalNote P w K mg base c) : CalMake P w K mg base c := by
  refine ⟨f, fd, fnG_of F scMake (fun cdv A0 outer s0 H as Φ hr hs hl => ?_), M, F.bindsN fun _ _ _ _ _ _ us hl => match us, hl with | [_, _, _], _ => rfl⟩
  obtain ⟨A, ⟨xs, ins, free, ns, made, place, regs, frame, moms⟩, r, x, n, rfl, rm, hv, hr1, hn1, k1, k2, q⟩ := hs
  have hu := hu_of hr.room
  let s : MS := ⟨xs, ins, free, ns, made, place, regs, frame, moms⟩
  let s' : MS := ⟨xs, ins, free.drop n, ns ++ [(made + 1, x, free.take n)], made + 1, place, regs, frame, moms⟩
  let s2 : MS := ⟨xs, ins, free.drop n, ns ++ [(made + 1, x, free.take n)], made + 1, place, regs ++ [(r, made + 1)], frame, moms⟩
  let SL : List (Option Rv) := [some (.adr A.m), some (.adr A.t), some (.dat (opT (.make r x n)))]
  refine JSs_cons <| JS_ofL 3 rfl scMake.nd (blkOk_by (own := [("one", 4)]) (N := ["self", "turn", "row", "below", "one", "node"]) (sc := defScope (mth 12)) (by decide +kernel)) <| JL_P <| JI_dat <| J_ix ix_seq <| J_name 2 rfl <| J_int <| RJ_ix (xs := [.str "make", .int r, .str x, .tuple []]) .dt rfl ⟨.tuple [], [], rfl, rfl, fun _ => true, fun r => r, trivial, no_mem, fun bl => ?_⟩
  refine JSs_at ⟨SL ++ [some (.adr bl), none, none], mob c A s ++ [(bl, .lst [])]⟩ rfl ?_
  refine JSs_cons <| JS_if <| JT_din hu <| J_ix ix_seq <| J_name 2 rfl <| J_int <| RJ_ix (xs := [.str "make", .int r, .str x, .tuple []]) .dt rfl <| jf cl.turn 1 7 rfl rfl rfl ⟨A.rg, regsR regs, .inl r, 8, rfl, rfl, rfl, ?_, fun _ => JSs_nil ?_⟩
  · rw [regs_none hr1]
    nofun
  refine JSs_cons <| JS_expr <| J_cm0 c1 cl.mach.cls hr <| J_name 0 rfl ⟨A.m, A.md, 0, _, rfl, rfl, rfl, [0, 1, 2, 3, 4, 5, 6, 7, 8, 9], by decide, by simp [mob], rfl, A, s, rfl, rm.behind, by simp [mob], rfl, ?_⟩
  refine JSs_at ⟨SL ++ [some (.adr bl), none, none], mob c A s ++ [(bl, .lst [])]⟩ rfl ?_
  refine JSs_cons <| JS_asg 5 scMake.nd <| J_cm c2 cl.mach.cls hr <| J_name 0 rfl ⟨A.m, A.md, 0, _, rfl, rfl, rfl, JA_cons <| J_ix ix_seq <| J_name 2 rfl <| J_int <| RJ_ix (xs := [.str "make", .int r, .str x, .tuple []]) .dt rfl <| JA_cons <| J_name 3 rfl <| JA_nil ⟨[0, 1, 2, 3, 4, 5, 10], by decide, by simp [mob], rfl,
    A.m, A.md, A.cc, A.cd, A.kn, A.ce, A.ced, A.fl, A.nd, bl, machF A s, xs, ins, free, ns, made, x, n, rfl, rfl, rfl, rfl, rfl, rfl, hv, k1, k2, hn1, rm.ns, by simp, rfl, ?_⟩⟩
  refine JSs_at ⟨SL ++ [some (.adr bl), none, some (.int (made + 1))], mob c A s' ++ [(bl, .lst [])]⟩ rfl ?_
  refine JSs_cons <| JS_if <| JT_cmp op_isN (by rfl) <| J_name 5 rfl <| J_none <| RJ_isN ⟨false, rfl, nofun, fun _ => JSs_nil ?_⟩
  refine JSs_cons <| JS_expr <| J_cm c3 cl.turn.cls hr <| J_name 1 rfl ⟨A.t, A.td, 7, _, rfl, rfl, rfl, JA_cons <| J_ix ix_seq <| J_name 2 rfl <| J_int <| RJ_ix (xs := [.str "make", .int r, .str x, .tuple []]) .dt rfl <| JA_cons <| J_name 5 rfl <| JA_nil ⟨[7, 8], by decide, by simp [mob], rfl,
    A.t, A.td, A.rg, frD frame, regsR regs, r, made + 1, rfl, regs_none hr1, by simpa [regsR] using rm.regs, by simp, rfl, ?_⟩⟩
  rw [put_reg hr1]
  refine JSs_at ⟨SL ++ [some (.adr bl), none, some (.int (made + 1))], mob c A s2 ++ [(bl, .lst [])]⟩ rfl ?_
  exact JSs_one <| JS_ret <| J_cm c4 cl.mach.cls hr <| J_name 0 rfl ⟨A.m, A.md, 0, _, rfl, rfl, rfl, JA_cons <| J_bin op_add <| jf cl.mach 0 0 rfl rfl rfl <| J_int <| RJ_add <| JA_nil ⟨[0, 1, 2, 3, 4, 5, 6, 7, 8, 9], by decide, by simp [mob], rfl, A, s2, rfl, rm.behind, rm.moms, by simp [mob], rfl, [0, 1, 2, 3, 4, 5, 6, 7, 8, 9], by decide, q⟩⟩
end
end K71
end

section
open PySem PySem.Spec PyProof.Rows L2 DL SH
/-! K71N: machines: taking apart, steps. -/
namespace K71
def spDo (c : CA) : Spc := fun as Φ => ∃ (A : MA) (s s' : MS) (o : Op), as = ⟨[some (.adr A.m), some (.dat (opT o))], mob c A s⟩ ∧ s.Rm ∧ Stp s o s' ∧ Φ (.bool true) (mob c A s')
def spStep (c : CA) : Spc := fun as Φ => ∃ (A : MA) (s s' : MS) (o : Op) (pl : Nat), as = ⟨[some (.adr A.m)], mob c A s⟩ ∧ s.Rm ∧ s.place = (pl : Nat) ∧ s.ins[pl]? = some (opD o) ∧ Stp s o s' ∧ Φ (.str "runs") (mob c A s')
section
variable {P : Program} {w : World} {K : PySem.W.Frag} {mg : Str → Option Value} {base : Heap} {f : Addr} {fd : FuncData} {c : CA}
abbrev CalDo (P : Program) (w : World) (K : PySem.W.Frag) (mg : Str → Option Value) (base : Heap) (c : CA) : Prop := CalM P w K mg base c.mach "do" 4 ["self", "row"] (spDo c)
abbrev CalStep (P : Program) (w : World) (K : PySem.W.Frag) (mg : Str → Option Value) (base : Heap) (c : CA) : Prop := CalM P w K mg base c.mach "step" 5 ["self"] (spStep c)
theorem scDo : FnScope ["self", "row", "word", "turn"] ["self", "row"] (defScope (mth 5)) := ⟨rfl, rfl, rfl, by decide +kernel, rfl, by decide +kernel, by decide +kernel⟩
theorem scStep : FnScope ["self", "kept", "is_done", "fault"] ["self"] (defScope (mth 4)) := ⟨rfl, rfl, rfl, by decide +kernel, rfl, by decide +kernel, by decide +kernel⟩
theorem ok_apart (F : MethP K "apart" "Machine.apart" (mth 11) f fd) (M : Meth K c.mach "apart" f) (cl : ClA K c) (T : Tx mg) (c1 : CalRead P w K mg base c.turn) (c2 : CalBehind P w K mg base c) (c3 : CalGive P w K mg base c.cells) (c4 : CalNote P w K mg base c) : CalApart P w K mg base c := by
  refine ⟨f, fd, fnG_of F scApart (fun cdv A0 outer s0 H as Φ hr hs hl => ?_), M, F.bindsN fun _ _ _ _ _ _ us hl => match us, hl with | [_, _, _, _], _ => rfl⟩
  obtain ⟨A, ⟨xs, ins, free, ns, made, place, regs, frame, moms⟩, r, i, x, cs, rfl, rm, hr1, hn1, k1, q⟩ := hs
  have hu := hu_of hr.room
  let s1 : MS := ⟨xs, ins, free, ns, made, place, regs.filter (fun q => decide (q.1 ≠ r)), frame, moms⟩
  let s2 : MS := ⟨xs, ins, free, ns.filter (fun q => decide (q.1 ≠ i)), made, place, regs.filter (fun q => decide (q.1 ≠ r)), frame, moms⟩
  let s3 : MS := ⟨xs, ins, cs ++ free, ns.filter (fun q => decide (q.1 ≠ i)), made, place, regs.filter (fun q => decide (q.1 ≠ r)), frame, moms⟩
  let SL : List (Option Rv) := [some (.adr A.m), some (.adr A.t), some (.int r), some (.tuple [])]
  let SR : List (Option Rv) := [some (.int i), some (.str x), some (.tuple []), some (.tuple (iD cs)), none, none]
  refine JSs_cons <| JS_asg 4 scApart.nd <| J_cm c1 cl.turn.cls hr <| J_name 1 rfl ⟨A.t, A.td, 7, _, rfl, rfl, rfl, JA_cons <| J_name 2 rfl <| JA_nil ⟨[7, 8], by decide, by simp [mob], rfl, A.t, A.td, A.rg, frD frame, regsR regs, r, .int i, rfl, hr1, by simp, rfl, ?_⟩⟩
  rw [drop_regs]
  refine JSs_at ⟨SL ++ [some (.int i), none, none, none, none, none], mob c A s1⟩ rfl ?_
  refine JSs_cons <| JS_asgG [5, 6, 7] <| J_dget hu <| jf cl.mach 0 0 rfl rfl rfl <| J_name 4 rfl ⟨A.nd, nodesR ns, .inl i, _, 5, rfl, rfl, rfl, hn1, ?_⟩
  refine JG_tup (ds := [.str x, .tuple [], .tuple (iD cs)]) rfl <| JGs_cons <| JG_name 5 scApart.nd <| JGs_cons <| JG_name 6 scApart.nd <| JGs_cons <| JG_name 7 scApart.nd <| JGs_nil ?_
  refine JSs_at ⟨SL ++ [some (.int i), some (.str x), some (.tuple []), some (.tuple (iD cs)), none, none], mob c A s1⟩ rfl ?_
  refine JSs_cons <| JS_if <| JT_cmp op_ne (by rfl) <| J_callB call_len T.len <| JA_cons <| J_name 6 rfl <| JA_nil <| RC_len (xs := []) .dt <| J_callB call_len T.len <| JA_cons <| J_name 3 rfl <| JA_nil <| RC_len (xs := []) .dt <| RJ_neI ⟨false, rfl, nofun, fun _ => JSs_nil ?_⟩
  refine JSs_cons <| @JS_for _ _ _ _ _ _ _ [8, 9] PassesOwn.never rfl ?_ (fun _ => rfl)
  refine JI_zip T.zip <| JA_cons <| J_name 3 rfl <| JA_cons <| J_name 6 rfl <| JA_nil ⟨[], [], rfl, by decide, fun k δ => δ = ⟨SL ++ SR, mob c A s1⟩, rfl, fun _ _ _ => trivial, ?_, ?_⟩
  · intro k d δ hd
    simp [zipD] at hd
  rintro δ rfl
  refine JSs_cons <| JS_expr <| J_cm0 c2 cl.mach.cls hr <| J_name 0 rfl ⟨A.m, A.md, 0, _, rfl, rfl, rfl, [0, 1, 2, 3, 4, 5, 6, 7, 8, 9], by decide, by simp [mob], rfl, A, s1, rfl, rm.behind, by simp [mob], rfl, ?_⟩
  refine JSs_at ⟨SL ++ [some (.int i), some (.str x), some (.tuple []), some (.tuple (iD cs)), none, none], mob c A s1⟩ rfl ?_
  refine JSs_cons <| JS_expr <| J_dpop <| jf cl.mach 0 0 rfl rfl rfl ⟨A.nd, nodesR ns, 5, rfl, rfl, J_name 4 rfl ⟨nodesR ns, .inl i, _, 5, rfl, rfl, hn1, ?_⟩⟩
  rw [drop_nodes]
  refine JSs_at ⟨SL ++ [some (.int i), some (.str x), some (.tuple []), some (.tuple (iD cs)), none, none], mob c A s2⟩ rfl ?_
  refine JSs_cons <| JS_expr <| J_cm c3 cl.cells.cls hr <| jf cl.mach 0 0 rfl rfl rfl ⟨A.ce, A.ced, 3, _, rfl, rfl, rfl, JA_cons <| J_name 7 rfl <| JA_nil ⟨[3, 4], by decide, by simp [mob], rfl, A.ce, A.ced, A.fl, cs, free, rfl, k1, by simp, rfl, ?_⟩⟩
  refine JSs_at ⟨SL ++ [some (.int i), some (.str x), some (.tuple []), some (.tuple (iD cs)), none, none], mob c A s3⟩ rfl ?_
  exact JSs_one <| JS_ret <| J_cm c4 cl.mach.cls hr <| J_name 0 rfl ⟨A.m, A.md, 0, _, rfl, rfl, rfl, JA_cons <| J_bin op_add <| jf cl.mach 0 0 rfl rfl rfl <| J_int <| RJ_add <| JA_nil ⟨[0, 1, 2, 3, 4, 5, 6, 7, 8, 9], by decide, by simp [mob], rfl, A, s3, rfl, rm.behind, rm.moms, by simp [mob], rfl, [0, 1, 2, 3, 4, 5, 6, 7, 8, 9], by decide, q⟩⟩
theorem ok_do (F : MethP K "do" "Machine.do" (mth 5) f fd) (M : Meth K c.mach "do" f) (cl : ClA K c) (TC : Tc mg) (c1 : CalEnter P w K mg base c) (c2 : CalApart P w K mg base c) (c3 : CalMake P w K mg base c) (c4 : CalLeave P w K mg base c) : CalDo P w K mg base c := by
  refine ⟨f, fd, fnG_of F scDo (fun cdv A0 outer s0 H as Φ hr hs hl => ?_), M, F.bindsN fun _ _ _ _ _ _ us hl => match us, hl with | [_, _], _ => rfl⟩
  obtain ⟨A, s, s', o, rfl, rm, st, q⟩ := hs
  obtain ⟨t1, C1⟩ := TC.en
  obtain ⟨t2, C2⟩ := TC.lv
  obtain ⟨t4, C4⟩ := TC.mt
  obtain ⟨t5, C5⟩ := TC.op
  obtain ⟨t6, C6⟩ := TC.mk_
  obtain ⟨t7, C7⟩ := TC.cl
  cases st with
  | enter k hf k1 k2 =>
    refine JSs_cons <| JS_par 2 3 rfl scDo.nd <| JA_cons <| J_ix ix_seq <| J_name 1 rfl <| J_int <| RJ_ix (xs := [.str "enter", .int (k : Nat)]) .dt rfl <| JA_cons <| J_ix ix_seq <| jf cl.mach 0 0 rfl rfl rfl <| J_neg <| J_int ⟨1, rfl, RJ_ix (xs := [.adr A.t]) (.ol 6 rfl) rfl <| JA_nil ⟨_, _, rfl, ?_⟩⟩
    refine JSs_cons <| JS_if <| JT_cmp op_eq (by rfl) <| J_name 2 rfl <| J_gstr C1 <| RJ_eqS ⟨true, congrArg Rv.bool (by decide +kernel), fun _ => ?_, nofun⟩
    exact JSs_one <| JS_ret <| J_cm c1 cl.mach.cls hr <| J_name 0 rfl ⟨A.m, A.md, 0, _, rfl, rfl, rfl, JA_cons <| J_name 3 rfl <| JA_cons <| J_ix ix_seq <| J_name 1 rfl <| J_int <| RJ_ix (xs := [.str "enter", .int (k : Nat)]) .dt rfl <| JA_nil ⟨[0, 1, 2, 3, 4, 5, 6, 7, 8, 9], by decide, by simp [mob], rfl, A, s, k, rfl, rm, hf, k1, k2, by simp [mob], rfl, [0, 1, 2, 3, 4, 5, 6, 7, 8, 9], by decide, q⟩⟩
  | opn r i x cs hr1 hn1 k1 =>
    refine JSs_cons <| JS_par 2 3 rfl scDo.nd <| JA_cons <| J_ix ix_seq <| J_name 1 rfl <| J_int <| RJ_ix (xs := [.str "open", .int r, .tuple []]) .dt rfl <| JA_cons <| J_ix ix_seq <| jf cl.mach 0 0 rfl rfl rfl <| J_neg <| J_int ⟨1, rfl, RJ_ix (xs := [.adr A.t]) (.ol 6 rfl) rfl <| JA_nil ⟨_, _, rfl, ?_⟩⟩
    refine JSs_cons <| JS_if <| JT_cmp op_eq (by rfl) <| J_name 2 rfl <| J_gstr C1 <| RJ_eqS ⟨false, congrArg Rv.bool (by decide +kernel), nofun, fun _ => JSs_nil ?_⟩
    refine JSs_cons <| JS_if <| JT_cmp op_eq (by rfl) <| J_name 2 rfl <| J_gstr C4 <| RJ_eqS ⟨false, congrArg Rv.bool (by decide +kernel), nofun, fun _ => JSs_nil ?_⟩
    refine JSs_cons <| JS_if <| JT_cmp op_eq (by rfl) <| J_name 2 rfl <| J_gstr C5 <| RJ_eqS ⟨true, congrArg Rv.bool (by decide +kernel), fun _ => ?_, nofun⟩
    exact JSs_one <| JS_ret <| J_cm c2 cl.mach.cls hr <| J_name 0 rfl ⟨A.m, A.md, 0, _, rfl, rfl, rfl, JA_cons <| J_name 3 rfl <| JA_cons <| J_ix ix_seq <| J_name 1 rfl <| J_int <| RJ_ix (xs := [.str "open", .int r, .tuple []]) .dt rfl <| JA_cons <| J_ix ix_seq <| J_name 1 rfl <| J_int <| RJ_ix (xs := [.str "open", .int r, .tuple []]) .dt rfl <| JA_nil ⟨[0, 1, 2, 3, 4, 5, 6, 7, 8, 9], by decide, by simp [mob], rfl, A, s, r, i, x, cs, rfl, rm, hr1, hn1, k1, by simp [mob], rfl, [0, 1, 2, 3, 4, 5, 6, 7, 8, 9], by decide, q⟩⟩
  | make r x n hv hr1 hn1 k1 k2 =>
    refine JSs_cons <| JS_par 2 3 rfl scDo.nd <| JA_cons <| J_ix ix_seq <| J_name 1 rfl <| J_int <| RJ_ix (xs := [.str "make", .int r, .str x, .tuple []]) .dt rfl <| JA_cons <| J_ix ix_seq <| jf cl.mach 0 0 rfl rfl rfl <| J_neg <| J_int ⟨1, rfl, RJ_ix (xs := [.adr A.t]) (.ol 6 rfl) rfl <| JA_nil ⟨_, _, rfl, ?_⟩⟩
    refine JSs_cons <| JS_if <| JT_cmp op_eq (by rfl) <| J_name 2 rfl <| J_gstr C1 <| RJ_eqS ⟨false, congrArg Rv.bool (by decide +kernel), nofun, fun _ => JSs_nil ?_⟩
    refine JSs_cons <| JS_if <| JT_cmp op_eq (by rfl) <| J_name 2 rfl <| J_gstr C4 <| RJ_eqS ⟨false, congrArg Rv.bool (by decide +kernel), nofun, fun _ => JSs_nil ?_⟩
    refine JSs_cons <| JS_if <| JT_cmp op_eq (by rfl) <| J_name 2 rfl <| J_gstr C5 <| RJ_eqS ⟨false, congrArg Rv.bool (by decide +kernel), nofun, fun _ => JSs_nil ?_⟩
    refine JSs_cons <| JS_if <| JT_cmp op_eq (by rfl) <| J_name 2 rfl <| J_gstr C6 <| RJ_eqS ⟨true, congrArg Rv.bool (by decide +kernel), fun _ => ?_, nofun⟩
    exact JSs_one <| JS_ret <| J_cm c3 cl.mach.cls hr <| J_name 0 rfl ⟨A.m, A.md, 0, _, rfl, rfl, rfl, JA_cons <| J_name 3 rfl <| JA_cons <| J_name 1 rfl <| JA_nil ⟨[0, 1, 2, 3, 4, 5, 6, 7, 8, 9], by decide, by simp [mob], rfl, A, s, r, x, n, rfl, rm, hv, hr1, hn1, k1, k2, by simp [mob], rfl, [0, 1, 2, 3, 4, 5, 6, 7, 8, 9], by decide, q⟩⟩
  | leave cs hf k1 =>
    refine JSs_cons <| JS_par 2 3 rfl scDo.nd <| JA_cons <| J_ix ix_seq <| J_name 1 rfl <| J_int <| RJ_ix (xs := [.str "leave", .int (cs.length : Nat)]) .dt rfl <| JA_cons <| J_ix ix_seq <| jf cl.mach 0 0 rfl rfl rfl <| J_neg <| J_int ⟨1, rfl, RJ_ix (xs := [.adr A.t]) (.ol 6 rfl) rfl <| JA_nil ⟨_, _, rfl, ?_⟩⟩
    refine JSs_cons <| JS_if <| JT_cmp op_eq (by rfl) <| J_name 2 rfl <| J_gstr C1 <| RJ_eqS ⟨false, congrArg Rv.bool (by decide +kernel), nofun, fun _ => JSs_nil ?_⟩
    refine JSs_cons <| JS_if <| JT_cmp op_eq (by rfl) <| J_name 2 rfl <| J_gstr C4 <| RJ_eqS ⟨false, congrArg Rv.bool (by decide +kernel), nofun, fun _ => JSs_nil ?_⟩
    refine JSs_cons <| JS_if <| JT_cmp op_eq (by rfl) <| J_name 2 rfl <| J_gstr C5 <| RJ_eqS ⟨false, congrArg Rv.bool (by decide +kernel), nofun, fun _ => JSs_nil ?_⟩
    refine JSs_cons <| JS_if <| JT_cmp op_eq (by rfl) <| J_name 2 rfl <| J_gstr C6 <| RJ_eqS ⟨false, congrArg Rv.bool (by decide +kernel), nofun, fun _ => JSs_nil ?_⟩
    refine JSs_cons <| JS_if <| JT_cmp op_eq (by rfl) <| J_name 2 rfl <| J_gstr C7 <| RJ_eqS ⟨false, congrArg Rv.bool (by decide +kernel), nofun, fun _ => JSs_nil ?_⟩
    refine JSs_cons <| JS_if <| JT_cmp op_eq (by rfl) <| J_name 2 rfl <| J_gstr C2 <| RJ_eqS ⟨true, congrArg Rv.bool (by decide +kernel), fun _ => ?_, nofun⟩
    exact JSs_one <| JS_ret <| J_cm c4 cl.mach.cls hr <| J_name 0 rfl ⟨A.m, A.md, 0, _, rfl, rfl, rfl, JA_cons <| J_name 3 rfl <| JA_cons <| J_ix ix_seq <| J_name 1 rfl <| J_int <| RJ_ix (xs := [.str "leave", .int (cs.length : Nat)]) .dt rfl <| JA_nil ⟨[0, 1, 2, 3, 4, 5, 6, 7, 8, 9], by decide, by simp [mob], rfl, A, s, cs, rfl, rm, hf, k1, by simp [mob], rfl, [0, 1, 2, 3, 4, 5, 6, 7, 8, 9], by decide, q⟩⟩
theorem ok_step (F : MethP K "step" "Machine.step" (mth 4) f fd) (M : Meth K c.mach "step" f) (cl : ClA K c) (TC : Tc mg) {vF : Value} (mF : mg "Fault" = some vF) (c1 : CalKept P w K mg base c.turn) (c2 : CalDo P w K mg base c) : CalStep P w K mg base c := by
  refine ⟨f, fd, fnG_of F scStep (fun cdv A0 outer s0 H as Φ hr hs hl => ?_), M, F.bindsN fun _ _ _ _ _ _ us hl => match us, hl with | [_], _ => rfl⟩
  obtain ⟨A, s, s', o, pl, rfl, rm, hp, hi, st, q⟩ := hs
  obtain ⟨t1, C1⟩ := TC.rn
  refine JSs_cons <| JS_if <| JT_cmp op_ne (by rfl) <| jf cl.mach 0 0 rfl rfl rfl <| J_gstr C1 <| RJ_neS ⟨false, congrArg Rv.bool (by decide +kernel), nofun, fun _ => JSs_nil ?_⟩
  refine JSs_cons <| JS_asg 1 scStep.nd <| J_cm0 c1 cl.turn.cls hr <| J_ix ix_seq <| jf cl.mach 0 0 rfl rfl rfl <| J_neg <| J_int ⟨1, rfl, RJ_ix (xs := [.adr A.t]) (.ol 6 rfl) rfl ⟨A.t, A.td, 7, _, rfl, rfl, rfl, [7, 8], by decide, by simp [mob], rfl, A.t, A.td, A.rg, _, _, rfl, fun t2 dx2 rg2 => ⟨by simp, rfl, ?_⟩⟩⟩
  refine JSs_at ⟨[some (.adr A.m), some (.adr t2), none, none], mob c A s ++ [(t2, turnO c.turn dx2 rg2 (frD s.frame)), (rg2, .dk (regsR s.regs))]⟩ rfl ?_
  refine JSs_pick [0, 1, 2, 3, 4, 5, 6, 7, 8, 9] (by decide) ?_
  refine JSs_at ⟨[some (.adr A.m), some (.adr t2), none, none], mob c A s⟩ rfl ?_
  refine JSs_cons <| JS_try (ix := 3) (cl := vF) ?_ rfl rfl scStep.nd rfl rfl ⟨rfl, by decide, .inl mF⟩
  intro pn xe
  have hat : atI ((s.ins.map fixD).map Rv.dat) s.place = some (.dat (opT o)) := by
    have hlt := (List.getElem?_eq_some_iff.mp hi).1
    rw [hp]
    unfold atI ixN
    rw [if_pos (by omega), if_pos (by simp; omega)]
    simp [hi, fix_op]
  refine JSs_cons <| JS_asg 2 scStep.nd <| J_cm c2 cl.mach.cls hr <| J_name 0 rfl ⟨A.m, A.md, 0, _, rfl, rfl, rfl, JA_cons <| J_ix ix_seq <| jo cl.code <| jf cl.mach 0 0 rfl rfl rfl ⟨A.cc, A.cd, 1, _, _, rfl, rfl, rfl, jf cl.mach 0 0 rfl rfl rfl <| RJ_ix .dt hat <| JA_nil ⟨[0, 1, 2, 3, 4, 5, 6, 7, 8, 9], by decide, by simp [mob], rfl, A, s, s', o, rfl, rm, st, by simp [mob], rfl, ?_⟩⟩⟩
  refine JSs_at ⟨[some (.adr A.m), some (.adr t2), some (.bool true), none], mob c A s'⟩ rfl ?_
  refine JSs_one <| JS_if <| JT_not <| JT_val <| J_name 2 rfl ⟨true, rfl, nofun, fun _ => JSs_nil ?_⟩
  refine JSs_cons <| JS_if <| JT_not <| JT_val <| J_name 2 rfl ⟨true, rfl, nofun, fun _ => JSs_nil ?_⟩
  exact JSs_one <| JS_ret <| jf cl.mach 0 0 rfl rfl rfl ⟨[0, 1, 2, 3, 4, 5, 6, 7, 8, 9], by decide, q⟩
end
end K71
end

section
open PySem PySem.Spec PyProof.Rows L2 DL SH
/-! K71O: machines: what can be seen. -/
namespace K71
def rowD (q : ND) : PyData := .tuple [.str q.2.1, .tuple (iD q.2.2)]
def frameD : Option (List Int) → List PyData
  | none => []
  | some cs => [.tuple [.str "frame", .tuple (iD cs)]]
def seenD (ns : List ND) (fr : Option (List Int)) : List PyData := ns.map rowD ++ frameD fr
def pairI2 (l : List (Int × Int)) : List PyData := l.map fun q => .tuple [.int q.1, .int q.2]
def spCells (c : CA) : Spc := fun as Φ => ∃ (A : MA) (s : MS), as = ⟨[some (.adr A.m)], mob c A s⟩ ∧ (s.ns.map (·.1)).Pairwise (· < ·) ∧ s.ns.length < 64 ∧ Φ (.tuple (seenD s.ns s.frame)) (mob c A s)
def spHeld (c : CA) : Spc := fun as Φ => ∃ (A : MA) (s : MS), as = ⟨[some (.adr A.m)], mob c A s⟩ ∧ (s.regs.map (·.1)).Nodup ∧ s.regs.length < 64 ∧ ∀ l : List (Int × Int), l.Perm s.regs → l.Pairwise (fun a b => a.1 < b.1) → Φ (.tuple (pairI2 l)) (mob c A s)
theorem sort_uniq : ∀ {l m : List Int}, l.Perm m → l.Pairwise (· ≤ ·) → m.Pairwise (· < ·) → l = m
  | [], m, h, _, _ => (List.nil_perm.mp h).symm
  | x :: l, [], h, _, _ => by cases (List.perm_nil.mp h)
  | x :: l, y :: m, h, h1, h2 => by
    rw [List.pairwise_cons] at h1 h2
    have hxy : x = y := by
      have a : x ∈ y :: m := h.mem_iff.mp List.mem_cons_self
      have b : y ∈ x :: l := h.mem_iff.mpr List.mem_cons_self
      rcases List.mem_cons.mp a with a | a
      · exact a
      · rcases List.mem_cons.mp b with b | b
        · exact b.symm
        · have := h2.1 x a
          have := h1.1 y b
          omega
    subst hxy
    rw [sort_uniq (List.perm_cons x |>.mp h) h1.2 h2.2]
def findN (ns : List ND) (y : Int) : PyData := match ns.find? fun q => decide (q.1 = y) with
  | some q => rowD q
  | none => .none
def gCell (ns : List ND) : Rv → Rv
  | .dat (.int y) => .dat (findN ns y)
  | r => r
theorem find_of {ns : List ND} (nd : (ns.map (·.1)).Nodup) {q : ND} (h : q ∈ ns) : ns.find? (fun p => decide (p.1 = q.1)) = some q := by
  induction ns with
  | nil => cases h
  | cons p ns ih =>
    rw [List.map_cons, List.nodup_cons] at nd
    rcases List.mem_cons.mp h with h | h
    · subst h
      simp
    · have hne : p.1 ≠ q.1 := fun e => nd.1 (by rw [e]; exact List.mem_map.mpr ⟨q, h, rfl⟩)
      rw [List.find?_cons]
      simp only [hne, decide_false]
      exact ih nd.2 h
theorem val_node {ns : List ND} (nd : (ns.map (·.1)).Nodup) {q : ND} (h : q ∈ ns) : valR (nodesR ns) (Sum.inl q.1 : Key) = some (.dat (nodeT q.2.1 q.2.2)) := by
  unfold valR nodesR
  rw [List.find?_map]
  have : (fun kv : Key × Rv => decide (kv.1 = Sum.inl q.1)) ∘ (fun p : ND => ((Sum.inl p.1 : Key), Rv.dat (nodeT p.2.1 p.2.2))) = fun p : ND => decide (p.1 = q.1) := by
    funext p
    simp
  rw [this, find_of nd h]
  rfl
theorem find_ofR {rs : List (Int × Int)} (nd : (rs.map (·.1)).Nodup) {q : Int × Int} (h : q ∈ rs) : rs.find? (fun p => decide (p.1 = q.1)) = some q := by
  induction rs with
  | nil => cases h
  | cons p rs ih =>
    rw [List.map_cons, List.nodup_cons] at nd
    rcases List.mem_cons.mp h with h | h
    · subst h
      simp
    · have hne : p.1 ≠ q.1 := fun e => nd.1 (by rw [e]; exact List.mem_map.mpr ⟨q, h, rfl⟩)
      rw [List.find?_cons]
      simp only [hne, decide_false]
      exact ih nd.2 h
theorem val_reg {rs : List (Int × Int)} (nd : (rs.map (·.1)).Nodup) {q : Int × Int} (h : q ∈ rs) : valR (regsR rs) (Sum.inl q.1 : Key) = some (.int q.2) := by
  unfold valR regsR
  rw [List.find?_map]
  have : (fun kv : Key × Rv => decide (kv.1 = Sum.inl q.1)) ∘ (fun p : Int × Int => ((Sum.inl p.1 : Key), Rv.int p.2)) = fun p : Int × Int => decide (p.1 = q.1) := by
    funext p
    simp
  rw [this, find_ofR nd h]
  rfl
section
variable {P : Program} {w : World} {K : PySem.W.Frag} {mg : Str → Option Value} {base : Heap} {f : Addr} {fd : FuncData} {c : CA}
abbrev CalSeen (P : Program) (w : World) (K : PySem.W.Frag) (mg : Str → Option Value) (base : Heap) (c : CA) : Prop := CalM P w K mg base c.mach "cells" 1 ["self"] (spCells c)
abbrev CalHeld (P : Program) (w : World) (K : PySem.W.Frag) (mg : Str → Option Value) (base : Heap) (c : CA) : Prop := CalM P w K mg base c.mach "held" 1 ["self"] (spHeld c)
theorem scCells : FnScope ["self", "found", "node", "frames", "turn"] ["self"] (defScope (mth 21)) := ⟨rfl, rfl, rfl, by decide +kernel, rfl, by decide +kernel, by decide +kernel⟩
theorem scHeld : FnScope ["self", "told", "register"] ["self"] (defScope (mth 22)) := ⟨rfl, rfl, rfl, by decide +kernel, rfl, by decide +kernel, by decide +kernel⟩
theorem ok_cells (F : MethP K "cells" "Machine.cells" (mth 21) f fd) (M : Meth K c.mach "cells" f) (cl : ClA K c) (T : Tx mg) : CalSeen P w K mg base c := by
  refine ⟨f, fd, fnG_of F scCells (fun cdv A0 outer s0 H as Φ hr hs hl => ?_), M, F.bindsN fun _ _ _ _ _ _ us hl => match us, hl with | [_], _ => rfl⟩
  obtain ⟨A, s, rfl, hp, hz, q⟩ := hs
  have hu := hu_of hr.room
  have nd : (s.ns.map (·.1)).Nodup := hp.imp fun h => Int.ne_of_lt h
  have hks : (nodesR s.ns).map (·.1) = (s.ns.map (·.1)).map (Sum.inl : Int → Key) := by rw [nodesR_keys, List.map_map]; rfl
  refine JSs_cons <| JS_ofL 1 rfl scCells.nd (blkOk_by (own := [("node", 2)]) (N := ["self", "found", "node", "frames", "turn"]) (sc := defScope (mth 21)) (by decide +kernel)) <| JL_P <| JI_lstO <| J_callB (call_sortedDI rfl) T.sorted <| JA_cons <| jf cl.mach 0 0 rfl rfl rfl <| JA_nil <| RC_sortedDI (ks := s.ns.map (·.1)) 5 rfl hks (by rw [List.length_map]; exact hz) fun ys p hpm hps => ?_
  have ey : ys = s.ns.map (·.1) := sort_uniq hpm hps hp
  subst ey
  refine ⟨p, 10, _, rfl, rfl, fun _ => true, gCell s.ns, List.mem_append_right _ (List.mem_singleton.mpr rfl), fun d hd Y hY => ?_, fun fl => ?_⟩
  · obtain ⟨s1, H1, C1, cl1, fp, rfl⟩ := hY
    obtain ⟨y, hy, rfl⟩ := List.mem_map.mp hd
    obtain ⟨n, hn, rfl⟩ := List.mem_map.mp hy
    refine JG_name 2 scCells.nd fun Y2 hY2 => JTs_nil ⟨rfl, rfl, fun _ Y3 hY3 => ?_⟩
    obtain ⟨s3, H3, C3, cl3, fp3, rfl⟩ := hY3
    have hv := val_node nd hn
    refine J_tup <| JA_cons <| J_ix ix_seq <| J_dget hu <| jf cl.mach 0 0 rfl rfl rfl <| J_name 2 rfl ⟨A.nd, nodesR s.ns, .inl n.1, _, 5, rfl, rfl, rfl, hv, J_int <| RJ_ix (xs := [.str n.2.1, .tuple [], .tuple (iD n.2.2)]) .dt rfl <| JA_cons <| J_ix ix_seq <| J_dget hu <| jf cl.mach 0 0 rfl rfl rfl <| J_name 2 rfl ⟨A.nd, nodesR s.ns, .inl n.1, _, 5, rfl, rfl, rfl, hv, J_int <| RJ_ix (xs := [.str n.2.1, .tuple [], .tuple (iD n.2.2)]) .dt rfl <| JA_nil ⟨[.str n.2.1, .tuple (iD n.2.2)], rfl, rfl, ?_, rfl⟩⟩⟩
    show _ = Rv.dat (findN s.ns n.1)
    unfold findN
    rw [find_of nd hn]
    rfl
  · have ef : pick (fun _ => true) (gCell s.ns) ((s.ns.map (·.1)).map Rv.int) = (s.ns.map rowD).map Rv.dat := by
      rw [pick_all, List.map_map, List.map_map, List.map_map]
      apply List.map_congr_left
      intro n hn
      show Rv.dat (findN s.ns n.1) = Rv.dat (rowD n)
      unfold findN
      rw [find_of nd hn]
    rw [ef]
    refine JSs_pick [0, 1, 2, 3, 4, 5, 6, 7, 8, 9, 11] (by decide) ?_
    refine JSs_at ⟨[some (.adr A.m), some (.adr fl), none, none, none], mob c A s ++ [(fl, .lst ((s.ns.map rowD).map Rv.dat))]⟩ rfl ?_
    refine JSs_cons <| JS_ofL 3 rfl scCells.nd (blkOk_by (own := [("turn", 4)]) (N := ["self", "found", "node", "frames", "turn"]) (sc := defScope (mth 21)) (by decide +kernel)) <| JL_P <| JI_lstO <| jf cl.mach 0 0 rfl rfl rfl ⟨A.ln, 6, [.adr A.t], rfl, rfl, fun _ => !isNn (.dat (frD s.frame)), fun _ => .tuple [.str "frame", frD s.frame], List.mem_of_getElem? (i := 6) rfl, fun d hd Y hY => ?_, fun fr => ?_⟩
    · obtain ⟨s1, H1, C1, cl1, fp, rfl⟩ := hY
      obtain rfl := List.mem_singleton.mp hd
      refine JG_name 4 scCells.nd fun Y2 hY2 => ?_
      obtain ⟨s2, H2, C2, cl2, fp2, rfl⟩ := hY2
      refine JTs_one <| JT_cmp op_notN (by rfl) <| jf cl.turn 4 7 rfl rfl rfl <| J_none <| RJ_notN ⟨_, rfl, rfl, rfl, fun _ Y3 hY3 => ?_⟩
      obtain ⟨s3, H3, C3, cl3, fp3, rfl⟩ := hY3
      exact J_tup <| JA_cons <| J_str <| JA_cons <| jf cl.turn 4 7 rfl rfl rfl <| JA_nil ⟨[.str "frame", frD s.frame], rfl, rfl, rfl, rfl⟩
    · have e2 : pick (fun _ => !isNn (.dat (frD s.frame))) (fun _ => Rv.tuple [.str "frame", frD s.frame]) [.adr A.t] = (frameD s.frame).map Rv.dat := by
        cases s.frame <;> rfl
      rw [e2]
      refine JSs_at ⟨[some (.adr A.m), some (.adr fl), none, some (.adr fr), none], mob c A s ++ [(fl, .lst ((s.ns.map rowD).map Rv.dat)), (fr, .lst ((frameD s.frame).map Rv.dat))]⟩ rfl ?_
      refine JSs_one <| JS_ret <| J_callTy call_tuple_of T.tuple <| JA_cons <| J_lst <| JA_star <| J_name 1 rfl ⟨true, _, .ol 10 rfl, ?_⟩
      rintro δ2 rfl
      refine JA_star <| J_name 3 rfl ⟨true, _, .ol 11 rfl, ?_⟩
      rintro δ2 rfl
      refine JA_nil ⟨?_, fun tl => JA_nil <| RC_tupleL (ds := seenD s.ns s.frame) ?_ ⟨[0, 1, 2, 3, 4, 5, 6, 7, 8, 9], by decide, q⟩⟩
      · refine Nat.ble_eq_true_of_le ?_
        have : (frameD s.frame).length ≤ 1 := by cases s.frame <;> simp [frameD]
        simp
        omega
      · have e3 : (seenD s.ns s.frame).map Rv.dat = (s.ns.map rowD).map Rv.dat ++ ((frameD s.frame).map Rv.dat ++ []) := by simp [seenD]
        rw [e3]
        exact .ol 12 rfl
def regOf (rs : List (Int × Int)) (y : Int) : Int := ((rs.find? fun q => decide (q.1 = y)).map (·.2)).getD 0
def gReg (rs : List (Int × Int)) : Rv → Rv
  | .dat (.int y) => .dat (.tuple [.int y, .int (regOf rs y)])
  | r => r
theorem regOf_of {rs : List (Int × Int)} (nd : (rs.map (·.1)).Nodup) {q : Int × Int} (h : q ∈ rs) : regOf rs q.1 = q.2 := by
  unfold regOf
  rw [find_ofR nd h]
  rfl
theorem le_lt : ∀ {l : List Int}, l.Pairwise (· ≤ ·) → l.Nodup → l.Pairwise (· < ·)
  | [], _, _ => .nil
  | x :: l, h, n => by
    rw [List.pairwise_cons] at h
    rw [List.nodup_cons] at n
    refine List.pairwise_cons.mpr ⟨fun y hy => ?_, le_lt h.2 n.2⟩
    have := h.1 y hy
    have : x ≠ y := fun e => n.1 (e ▸ hy)
    omega
theorem ok_held (F : MethP K "held" "Machine.held" (mth 22) f fd) (M : Meth K c.mach "held" f) (cl : ClA K c) (T : Tx mg) : CalHeld P w K mg base c := by
  refine ⟨f, fd, fnG_of F scHeld (fun cdv A0 outer s0 H as Φ hr hs hl => ?_), M, F.bindsN fun _ _ _ _ _ _ us hl => match us, hl with | [_], _ => rfl⟩
  obtain ⟨A, s, rfl, nd, hz, q⟩ := hs
  have hu := hu_of hr.room
  have hks : (regsR s.regs).map (·.1) = (s.regs.map (·.1)).map (Sum.inl : Int → Key) := by
    unfold regsR
    rw [List.map_map, List.map_map]
    rfl
  refine JSs_cons <| JS_if <| JT_cmp (op_eqE (Nat.lt_of_succ_lt hu)) (by rfl) <| jf cl.mach 0 0 rfl rfl rfl <| J_lst <| JA_nil ⟨rfl, fun jk => RJ_eqE (.ol 6 rfl) (.ol 10 rfl) ⟨false, rfl, nofun, fun _ => JSs_nil ?_⟩⟩
  refine JSs_pick [0, 1, 2, 3, 4, 5, 6, 7, 8, 9] (by decide) ?_
  refine JSs_at ⟨[some (.adr A.m), none, none], mob c A s⟩ rfl ?_
  refine JSs_cons <| JS_asg 1 scHeld.nd <| jo cl.turn <| J_ix ix_seq <| jf cl.mach 0 0 rfl rfl rfl <| J_neg <| J_int ⟨1, rfl, RJ_ix (xs := [.adr A.t]) (.ol 6 rfl) rfl ⟨A.t, A.td, 7, _, _, rfl, rfl, rfl, ?_⟩⟩
  refine JSs_at ⟨[some (.adr A.m), some (.adr A.rg), none], mob c A s⟩ rfl ?_
  refine JSs_one <| JS_ret <| J_callTy call_tuple_of T.tuple <| JA_cons <| J_lcP rfl scHeld.nd (blkOk_by (own := [("register", 2)]) (N := ["self", "told", "register"]) (sc := defScope (mth 22)) (by decide +kernel)) <| JI_lstO <| J_callB (call_sortedDI rfl) T.sorted <| JA_cons <| J_name 1 rfl <| JA_nil <| RC_sortedDI (ks := s.regs.map (·.1)) 8 rfl hks (by rw [List.length_map]; exact hz) fun ys p hpm hps => ?_
  refine ⟨p, 10, _, rfl, rfl, fun _ => true, gReg s.regs, List.mem_append_right _ (List.mem_singleton.mpr rfl), fun d hd Y hY => ?_, fun fl => JA_nil ?_⟩
  · obtain ⟨s1, H1, C1, cl1, fp, rfl⟩ := hY
    obtain ⟨y, hy, rfl⟩ := List.mem_map.mp hd
    obtain ⟨n, hn, rfl⟩ := List.mem_map.mp (hpm.mem_iff.mp hy)
    refine JG_name 2 scHeld.nd fun Y2 hY2 => JTs_nil ⟨rfl, rfl, fun _ Y3 hY3 => ?_⟩
    obtain ⟨s3, H3, C3, cl3, fp3, rfl⟩ := hY3
    have hv := val_reg nd hn
    refine J_tup <| JA_cons <| J_name 2 rfl <| JA_cons <| J_dget hu <| J_name 1 rfl <| J_name 2 rfl ⟨A.rg, regsR s.regs, .inl n.1, _, 8, rfl, rfl, rfl, hv, JA_nil ⟨[.int n.1, .int n.2], rfl, rfl, ?_, rfl⟩⟩
    show _ = Rv.dat (.tuple [.int n.1, .int (regOf s.regs n.1)])
    rw [regOf_of nd hn]
  · let l : List (Int × Int) := ys.map fun y => (y, regOf s.regs y)
    have hl1 : l.Perm s.regs := by
      have h1 : l.Perm ((s.regs.map (·.1)).map fun y => (y, regOf s.regs y)) := hpm.map _
      have h2 : ((s.regs.map (·.1)).map fun y => (y, regOf s.regs y)) = s.regs := by
        rw [List.map_map]
        conv => rhs; rw [← List.map_id s.regs]
        apply List.map_congr_left
        intro n hn
        show (n.1, regOf s.regs n.1) = n
        rw [regOf_of nd hn]
      rw [h2] at h1
      exact h1
    have hl2 : l.Pairwise fun a b => a.1 < b.1 := List.pairwise_map.mpr (le_lt hps (hpm.nodup_iff.mpr nd))
    have e : pick (fun _ => true) (gReg s.regs) (ys.map Rv.int) = (pairI2 l).map Rv.dat := by
      rw [pick_all, List.map_map]
      unfold pairI2
      rw [List.map_map, List.map_map]
      rfl
    rw [e]
    exact RC_tupleL (ds := pairI2 l) (.ol 11 rfl) ⟨[0, 1, 2, 3, 4, 5, 6, 7, 8, 9], by decide, q l hl1 hl2⟩
end
end K71
end

section
open PySem PySem.Spec PyProof.Rows L2 DL SH
/-! K71P: the law's pen. -/
namespace K71
abbrev sPen : Stmt := top 60
abbrev sDraw : Stmt := top 61
abbrev sPick : Stmt := top 62
def penO (ns : List Int) (n g : Int) : MO := .lst [.list (iD ns), .int n, .int g]
def PenK (k : Int) (ns : List Int) (n g : Int) : Prop := ns.length ≤ 63 ∧ 0 ≤ n ∧ n ≤ k ∧ 0 ≤ g
def spPen : Spc := fun as Φ => ∃ ns : List Int, as = ⟨[some (.list (iD ns))], []⟩ ∧ ∀ (pa : Addr) (ns' : List Int), PenK 0 ns' 0 0 → Φ (.adr pa) [(pa, penO ns' 0 0)]
def spDraw : Spc := fun as Φ => ∃ (pa : Addr) (k m : Int) (ns : List Int) (n g : Int), as = ⟨[some (.adr pa), some (.int m)], [(pa, penO ns n g)]⟩ ∧ PenK k ns n g ∧ 1 ≤ m ∧ m ≤ 1000 ∧ k ≤ 100000 ∧
  ∀ (x : Int) (ns' : List Int) (n' g' : Int), 0 ≤ x → x < m → PenK (k + 1) ns' n' g' → Φ (.int x) [(pa, penO ns' n' g')]
def spPick : Spc := fun as Φ => ∃ (pa : Addr) (k : Int) (ns : List Int) (n g : Int) (ds : List PyData), as = ⟨[some (.adr pa), some (.list ds)], [(pa, penO ns n g)]⟩ ∧ PenK k ns n g ∧ 1 ≤ ds.length ∧ ds.length ≤ 1000 ∧ k ≤ 100000 ∧
  ∀ (d : PyData) (ns' : List Int) (n' g' : Int), d ∈ ds → PenK (k + 1) ns' n' g' → Φ (.dat d) [(pa, penO ns' n' g')]
theorem natAbs_lt {x : Int} {b : Nat} (h0 : 0 ≤ x) (h : x < (b : Int)) : x.natAbs < b := by omega
theorem atI_of {α : Type} {xs : List α} {j : Nat} {x : α} (h : xs[j]? = some x) : atI xs (j : Int) = some x := by
  have hl := (List.getElem?_eq_some_iff.mp h).1
  unfold atI ixN
  rw [if_pos (by omega), if_pos (by omega)]
  simpa using h
section
variable {P : Program} {w : World} {K : PySem.W.Frag} {mg : Str → Option Value} {base : Heap} {f : Addr} {fd : FuncData}
abbrev CalPen (P : Program) (w : World) (K : PySem.W.Frag) (mg : Str → Option Value) (base : Heap) : Prop := Cal P w K mg base "_law_pen" 1 ["script"] spPen
abbrev CalDraw (P : Program) (w : World) (K : PySem.W.Frag) (mg : Str → Option Value) (base : Heap) : Prop := Cal P w K mg base "_law_draw" 1 ["pen", "many"] spDraw
abbrev CalPick (P : Program) (w : World) (K : PySem.W.Frag) (mg : Str → Option Value) (base : Heap) : Prop := Cal P w K mg base "_law_pick" 2 ["pen", "some"] spPick
theorem scPen : FnScope ["script"] ["script"] (defScope sPen) := ⟨rfl, rfl, rfl, by decide +kernel, rfl, by decide +kernel, by decide +kernel⟩
theorem scDraw : FnScope ["pen", "many", "digit", "at", "cell", "great", "mixed"] ["pen", "many"] (defScope sDraw) := ⟨rfl, rfl, rfl, by decide +kernel, rfl, by decide +kernel, by decide +kernel⟩
theorem scPick : FnScope ["pen", "some"] ["pen", "some"] (defScope sPick) := ⟨rfl, rfl, rfl, by decide +kernel, rfl, by decide +kernel, by decide +kernel⟩
theorem cut_iD (ns : List Int) : ∃ ns' : List Int, cutR ((iD ns).map Rv.dat) none (some 63) = (iD ns').map .dat ∧ ns'.length ≤ 63 := by
  refine ⟨(ns.drop (HT.sIx ((iD ns).map Rv.dat).length 0 none)).take (HT.sIx ((iD ns).map Rv.dat).length ((iD ns).map Rv.dat).length (some 63) - HT.sIx ((iD ns).map Rv.dat).length 0 none), ?_, ?_⟩
  · unfold cutR iD
    rw [List.map_take, List.map_take, List.map_drop, List.map_drop]
  · rw [List.length_take]
    have e : HT.sIx ((iD ns).map Rv.dat).length ((iD ns).map Rv.dat).length (some 63) = min 63 ((iD ns).map Rv.dat).length := HT.sIx_nat _ _ 63
    rw [e]
    omega
theorem ok_pen (F : FnP K "_law_pen" sPen f fd) (m : mg "_law_pen" = some (.ref f)) (T : Tx mg) : CalPen P w K mg base := by
  refine ⟨f, fd, fnG_of F scPen (fun cdv A0 outer s0 H as Φ hr hs hl => ?_), m, F.kp, F.bindsN fun _ _ _ _ _ _ us hl => match us, hl with | [_], _ => rfl⟩
  obtain ⟨ns, rfl, q⟩ := hs
  obtain ⟨ns', e, hl'⟩ := cut_iD ns
  refine JSs_one <| JS_ret <| J_lst <| JA_cons <| J_frz <| J_callTy call_list_of T.list <| JA_cons <| J_sliceL <| J_name 0 rfl <| JP_none <| JP_some <| J_int ⟨63, rfl, (iD ns).map .dat, .dl, fun p1 => JA_nil <| RC_list (.ol 0 rfl) fun p2 => ⟨p2, 1, iD ns', rfl, ?_, ?_⟩⟩
  · rw [e]
    rfl
  · exact JA_cons <| J_int <| JA_cons <| J_int <| JA_nil ⟨rfl, fun pa => ⟨[1], by decide, q pa ns' ⟨hl', by decide, by decide, by decide⟩⟩⟩
theorem ok_draw (F : FnP K "_law_draw" sDraw f fd) (m : mg "_law_draw" = some (.ref f)) (T : Tx mg) : CalDraw P w K mg base := by
  refine ⟨f, fd, fnG_of F scDraw (fun cdv A0 outer s0 H as Φ hr hs hl => ?_), m, F.kp, F.bindsN fun _ _ _ _ _ _ us hl => match us, hl with | [_, _], _ => rfl⟩
  obtain ⟨pa, k, m, ns, n, g, rfl, ⟨hP1, hP2, hP3, hP4⟩, m1, m2, hk, q⟩ := hs
  have hu := hu_of hr.room
  have elen : ((iD ns).map Rv.dat).length = ns.length := by simp [iD]
  refine JSs_cons <| JS_if <| JT_cmp op_lt (by rfl) <| J_name 1 rfl <| J_int <| RJ_lt ⟨_, rfl, fun h => ?_, fun h => ?_⟩
  · have h' := of_decide_eq_true h
    exact JSs_one <| JS_ret <| J_int ⟨[0], by decide, q 0 ns n g (by omega) (by omega) ⟨hP1, hP2, by omega, hP4⟩⟩
  have h' := of_decide_eq_false h
  refine JSs_nil <| JSs_cons <| JS_if <| JT_cmp op_gt (by rfl) <| J_ix ix_seq <| J_name 0 rfl <| J_int <| RJ_ix (xs := [.list (iD ns), .int n, .int g]) (.ol 0 rfl) rfl <| J_int <| RJ_gt ⟨_, rfl, fun hg => ?_, fun hg => ?_⟩
  · have hg' := of_decide_eq_true hg
    refine JSs_cons <| JS_asg 2 scDraw.nd <| J_bin op_mod <| J_callTy call_int1 T.int <| JA_cons <| J_ix ix_seq <| J_name 0 rfl <| J_int <| RJ_ix (xs := [.list (iD ns), .int n, .int g]) (.ol 0 rfl) rfl <| JA_nil <| RC_int <| J_name 1 rfl <| RJ_mod (by omega) ?_
    refine JSs_cons <| JS_setIx <| J_bin op_fdiv <| J_callTy call_int1 T.int <| JA_cons <| J_ix ix_seq <| J_name 0 rfl <| J_int <| RJ_ix (xs := [.list (iD ns), .int n, .int g]) (.ol 0 rfl) rfl <| JA_nil <| RC_int <| J_name 1 rfl <| RJ_fdiv ⟨by omega, by omega⟩ <| J_name 0 rfl <| J_int ⟨pa, [.list (iD ns), .int n, .int g], 2, 2, 0, rfl, rfl, rfl, rfl, ?_⟩
    exact JSs_one <| JS_ret <| J_name 2 rfl ⟨[0], by decide, q _ ns n _ (lt_mod (by omega)).1 (lt_mod (by omega)).2 ⟨hP1, hP2, by omega, Int.ediv_nonneg hP4 (by omega)⟩⟩
  refine JSs_nil <| JSs_cons <| JS_asg 3 scDraw.nd <| J_ix ix_seq <| J_name 0 rfl <| J_int <| RJ_ix (xs := [.list (iD ns), .int n, .int g]) (.ol 0 rfl) rfl ?_
  refine JSs_cons <| JS_setIx <| J_bin op_add <| J_name 3 rfl <| J_int <| RJ_add <| J_name 0 rfl <| J_int ⟨pa, [.list (iD ns), .int n, .int g], 1, 1, 0, rfl, rfl, rfl, rfl, ?_⟩
  refine JSs_cons <| JS_asg 4 scDraw.nd <| J_bin op_add <| J_bin op_mul <| J_int <| J_name 3 rfl <| RJ_mul (.inl ⟨by decide, by decide⟩) <| J_int <| RJ_add ?_
  refine JSs_via (fun δ1 => ∃ c : Int, δ1 = ⟨[some (.adr pa), some (.int m), none, some (.int n), some (.int c), none, none], [(pa, penO ns (n + 1) g)]⟩) (JS_if <| JT_cmp (op_neE (Nat.lt_of_succ_lt hu)) (by rfl) <| J_ix ix_seq <| J_name 0 rfl <| J_int <| RJ_ix (xs := [.list (iD ns), .int (n + 1), .int g]) (.ol 0 rfl) rfl <| J_lst <| JA_nil ⟨rfl, fun jk => RJ_eqE .dl (.ol 1 rfl) ⟨_, rfl, fun he => JSs_pick [0] (by decide) ?_, fun he => JSs_pick [0] (by decide) <| JSs_nil ⟨_, rfl⟩⟩⟩) ?_
  · have hpos : (0 : Int) < ((((iD ns).map Rv.dat).length : Nat) : Int) := by
      cases ns with
      | nil => cases he
      | cons a b => simp [iD]
    obtain ⟨j, hj⟩ := Int.eq_ofNat_of_zero_le (lt_mod (i := n) hpos).1
    have hj2 := (lt_mod (i := n) hpos).2
    rw [hj, elen] at hj2
    have hc : atI ((iD ns).map Rv.dat) (n % ((((iD ns).map Rv.dat).length : Nat) : Int)) = some (.int (ns[j]'(by omega))) := by
      rw [hj]
      refine atI_of ?_
      rw [iD_dat]
      unfold iR
      rw [List.getElem?_map, List.getElem?_eq_getElem (by omega)]
      rfl
    exact JSs_one <| JS_asg 4 scDraw.nd <| J_ix ix_seq <| J_ix ix_seq <| J_name 0 rfl <| J_int <| RJ_ix (xs := [.list (iD ns), .int (n + 1), .int g]) (.ol 0 rfl) rfl <| J_bin op_mod <| J_callTy call_int1 T.int <| JA_cons <| J_name 3 rfl <| JA_nil <| RC_int <| J_callB call_len T.len <| JA_cons <| J_ix ix_seq <| J_name 0 rfl <| J_int <| RJ_ix (xs := [.list (iD ns), .int (n + 1), .int g]) (.ol 0 rfl) rfl <| JA_nil <| RC_len .dl <| RJ_mod hpos <| RJ_ix .dl hc ⟨_, rfl⟩
  rintro _ ⟨c, rfl⟩
  refine JSs_via (fun δ1 => δ1 = ⟨[some (.adr pa), some (.int m), none, some (.int n), some (.int c), none, none], [(pa, penO ns (n + 1) g)]⟩) (JS_if <| JT_w <| JW_and <| JT_cmp op_lt (by rfl) <| J_name 3 rfl <| J_callB call_len T.len <| JA_cons <| J_ix ix_seq <| J_name 0 rfl <| J_int <| RJ_ix (xs := [.list (iD ns), .int (n + 1), .int g]) (.ol 0 rfl) rfl <| JA_nil <| RC_len .dl <| RJ_lt ⟨_, rfl, fun h1 => ?_, fun h1 => ⟨nofun, fun _ => JSs_nil rfl⟩⟩) ?_
  · refine JW_and1 <| JT_cmp op_ge (by rfl) <| J_callB call_abs T.abs <| JA_cons <| J_name 4 rfl <| JA_nil <| RC_abs <| J_bin op_pow <| J_int <| J_int <| RJ_pow ⟨by decide, by decide, by decide⟩ <| RJ_ge ⟨_, rfl, fun h2 => ?_, fun h2 => JSs_nil rfl⟩
    have h2' := of_decide_eq_true h2
    refine JSs_via (fun δ1 => ∃ r : Int, 0 ≤ r ∧ δ1 = ⟨[some (.adr pa), some (.int m), none, some (.int n), some (.int c), some (.int r), none], [(pa, penO ns (n + 1) g)]⟩) (JS_asg 5 scDraw.nd <| J_bin op_add <| J_bin op_mul <| J_int <| J_bin op_sub <| J_callB call_abs T.abs <| JA_cons <| J_name 4 rfl <| JA_nil <| RC_abs <| J_bin op_pow <| J_int <| J_int <| RJ_pow ⟨by decide, by decide, by decide⟩ <| RJ_sub <| RJ_mul (.inl ⟨by decide, by decide⟩) <| J_callTy call_int1 T.int <| JA_cons <| J_cmp op_lt (by rfl) <| J_name 4 rfl <| J_int <| RJ_lt <| JA_nil <| RC_intB <| RJ_add ⟨_, ?_, rfl⟩) ?_
    · generalize (10 : Int) ^ Int.toNat 18 = z at h2' ⊢
      by_cases hc : decide (c < 0) = true
      · rw [hc]
        simp
        omega
      · have hc' : decide (c < 0) = false := by simpa using hc
        rw [hc']
        simp
        omega
    rintro _ ⟨r, hr0, rfl⟩
    refine JSs_cons <| JS_setIx <| J_bin op_fdiv <| J_callTy call_int1 T.int <| JA_cons <| J_name 5 rfl <| JA_nil <| RC_int <| J_name 1 rfl <| RJ_fdiv ⟨by omega, by omega⟩ <| J_name 0 rfl <| J_int ⟨pa, [.list (iD ns), .int (n + 1), .int g], 2, 2, 0, rfl, rfl, rfl, rfl, ?_⟩
    exact JSs_one <| JS_ret <| J_bin op_mod <| J_callTy call_int1 T.int <| JA_cons <| J_name 5 rfl <| JA_nil <| RC_int <| J_name 1 rfl <| RJ_mod (by omega) ⟨[0], by decide, q _ ns (n + 1) _ (lt_mod (by omega)).1 (lt_mod (by omega)).2 ⟨hP1, by omega, by omega, Int.ediv_nonneg hr0 (by omega)⟩⟩
  rintro _ rfl
  have c1 := lt_mod (i := c) (by decide : (0 : Int) < 2147483549)
  refine JSs_via (fun δ1 => ∃ r : Int, 0 ≤ r ∧ r < 2147483629 ∧ δ1 = ⟨[some (.adr pa), some (.int m), none, some (.int n), some (.int c), none, some (.int r)], [(pa, penO ns (n + 1) g)]⟩) (JS_asg 6 scDraw.nd <| J_bin op_mod <| J_callTy call_int1 T.int <| JA_cons <| J_bin op_pow <| J_bin op_add <| J_bin op_add <| J_bin op_mod <| J_callTy call_int1 T.int <| JA_cons <| J_name 4 rfl <| JA_nil <| RC_int <| J_int <| RJ_mod (by decide) <| J_bin op_mul <| J_int <| J_name 3 rfl <| RJ_mul (.inl ⟨by decide, by decide⟩) <| RJ_add <| J_int <| RJ_add <| J_int <| RJ_pow ⟨by decide, by decide, natAbs_lt (b := 2 ^ 64) (by omega) (by omega)⟩ <| JA_nil <| RC_int <| J_int <| RJ_mod (by decide) ⟨_, (lt_mod (by decide)).1, (lt_mod (by decide)).2, rfl⟩) ?_
  rintro _ ⟨r, r0, r1, rfl⟩
  have n0 : (0 : Int) ≤ n := hP2
  have n1 : n ≤ 100000 := by omega
  have t1 : 0 ≤ 2 * n + 7663 ∧ 2 * n + 7663 ≤ 207663 := by omega
  have b1 : r * (2 * n + 7663) ≤ 2147483629 * 207663 := Int.le_trans (Int.mul_le_mul_of_nonneg_right (by omega : r ≤ 2147483629) t1.1) (Int.mul_le_mul_of_nonneg_left t1.2 (by omega))
  have b0 : 0 ≤ r * (2 * n + 7663) := Int.mul_nonneg r0 t1.1
  have d0 : 0 ≤ 73425 * n * n := Int.mul_nonneg (by omega) n0
  have d1 : 73425 * n * n ≤ 73425 * 100000 * 100000 := Int.le_trans (Int.mul_le_mul_of_nonneg_left n1 (by omega : (0 : Int) ≤ 73425 * n)) (by omega)
  refine JSs_via (fun δ1 => ∃ r : Int, 0 ≤ r ∧ δ1 = ⟨[some (.adr pa), some (.int m), none, some (.int n), some (.int c), none, some (.int r)], [(pa, penO ns (n + 1) g)]⟩) (JS_asg 6 scDraw.nd <| J_bin op_mod <| J_callTy call_int1 T.int <| JA_cons <| J_bin op_pow <| J_bin op_add <| J_bin op_add <| J_bin op_mul <| J_name 6 rfl <| J_bin op_add <| J_bin op_mul <| J_int <| J_name 3 rfl <| RJ_mul (.inl ⟨by decide, by decide⟩) <| J_int <| RJ_add <| RJ_mul (.inl ⟨by omega, by omega⟩) <| J_bin op_mul <| J_bin op_mul <| J_int <| J_name 3 rfl <| RJ_mul (.inl ⟨by decide, by decide⟩) <| J_name 3 rfl <| RJ_mul (.inr ⟨by omega, by omega⟩) <| RJ_add <| J_int <| RJ_add <| J_int <| RJ_pow ⟨by decide, by decide, natAbs_lt (b := 2 ^ 64) (by omega) (by omega)⟩ <| JA_nil <| RC_int <| J_int <| RJ_mod (by decide) ⟨_, (lt_mod (by decide)).1, rfl⟩) ?_
  rintro _ ⟨r2, _, rfl⟩
  exact JSs_one <| JS_ret <| J_bin op_mod <| J_callTy call_int1 T.int <| JA_cons <| J_bin op_fdiv <| J_name 6 rfl <| J_int <| RJ_fdiv ⟨by decide, by decide⟩ <| JA_nil <| RC_int <| J_name 1 rfl <| RJ_mod (by omega) ⟨[0], by decide, q _ ns (n + 1) g (lt_mod (by omega)).1 (lt_mod (by omega)).2 ⟨hP1, by omega, by omega, hP4⟩⟩
theorem ok_pick (F : FnP K "_law_pick" sPick f fd) (m : mg "_law_pick" = some (.ref f)) (T : Tx mg) (c1 : CalDraw P w K mg base) : CalPick P w K mg base := by
  refine ⟨f, fd, fnG_of F scPick (fun cdv A0 outer s0 H as Φ hr hs hl => ?_), m, F.kp, F.bindsN fun _ _ _ _ _ _ us hl => match us, hl with | [_, _], _ => rfl⟩
  obtain ⟨pa, k, ns, n, g, ds, rfl, hP, l1, l2, hk, q⟩ := hs
  have elen : (ds.map Rv.dat).length = ds.length := by simp
  refine JSs_one <| JS_ret <| J_ix ix_seq <| J_name 1 rfl <| J_cH c1 hr <| JA_cons <| J_name 0 rfl <| JA_cons <| J_callB call_len T.len <| JA_cons <| J_name 1 rfl <| JA_nil <| RC_len .dl <| JA_nil ⟨[0], by decide, by simp, rfl, pa, k, _, ns, n, g, rfl, hP, by rw [elen]; omega, by rw [elen]; omega, hk, fun x ns' n' g' h0 h1 hP' => ⟨by simp, rfl, ?_⟩⟩
  obtain ⟨j, rfl⟩ := Int.eq_ofNat_of_zero_le h0
  have hj : j < ds.length := by rw [elen] at h1; omega
  refine RJ_ix .dl (atI_of (x := .dat ds[j]) ?_) ⟨[0], by decide, q _ ns' n' g' (List.getElem_mem hj) hP'⟩
  rw [List.getElem?_map, List.getElem?_eq_getElem hj]
  rfl
end
end K71
end

section
open PySem PySem.Spec PyProof.Rows L2 DL SH
/-! K71Q: the plain law: the own row of free cells beside the machine. -/
namespace K71
structure En where
  (spot num : Int) (name : Str) (cells : List Int)
structure LS where
  (free : List Int) (ents : List En) (made : Int) (frame : Option (List Int))
def frL : Option (List Int) → Nat
  | none => 0
  | some cs => cs.length
def sumC (es : List En) : Nat := (es.map fun e => e.cells.length).sum
structure LInv (a : Nat) (L : LS) : Prop where
  spots : (L.ents.map (·.spot)).Nodup
  rng : ∀ e ∈ L.ents, 1 ≤ e.spot ∧ e.spot ≤ 9
  nums : ((1 : Int) :: L.ents.map (·.num)).Pairwise (· < ·)
  top : ∀ e ∈ L.ents, e.num ≤ L.made
  made1 : 1 ≤ L.made
  lens : ∀ e ∈ L.ents, e.cells.length ≤ 4
  fr : frL L.frame ≤ 3
  cnt : L.ents.length ≤ 9
  sum : L.free.length + (sumC L.ents + frL L.frame) + a = 200
inductive LStp (xs : List (Str × Int)) (L : LS) : Op → LS → Prop
  | make (r : Int) (x : Str) (n : Nat) : L.ents.length < 9 → r ∉ L.ents.map (·.spot) → 1 ≤ r → r ≤ 9 → valR (knownR xs) (Sum.inr x : Key) = some (.dat (nodeD x n)) → n ≤ 4 →
    LStp xs L (.make r x n) ⟨L.free.drop n, L.ents ++ [⟨r, L.made + 1, x, L.free.take n⟩], L.made + 1, L.frame⟩
  | opn (e : En) : e ∈ L.ents → LStp xs L (.opn e.spot) ⟨e.cells ++ L.free, L.ents.filter (fun q => decide (q.spot ≠ e.spot)), L.made, L.frame⟩
  | enter (k : Nat) : L.frame = none → k ≤ 3 → LStp xs L (.enter k) ⟨L.free.drop k, L.ents, L.made, some (L.free.take k)⟩
  | leave (cs : List Int) : L.frame = some cs → LStp xs L (.leave cs.length) ⟨cs ++ L.free, L.ents, L.made, none⟩
def nsOf (cs0 : List Int) (L : LS) : List ND := (1, ("na" : Str), cs0) :: L.ents.map fun e => (e.num, e.name, e.cells)
def regsOf (L : LS) : List (Int × Int) := (0, 1) :: L.ents.map fun e => (e.spot, e.num)
def toMS (xs : List (Str × Int)) (ins : List PyData) (cs0 : List Int) (L : LS) (pl : Int) (moms : List Int) : MS := ⟨xs, ins, L.free, nsOf cs0 L, L.made, pl, regsOf L, L.frame, moms⟩
def dueD (cs0 : List Int) (L : LS) : PyData := .tuple (seenD (nsOf cs0 L) L.frame)
theorem sumC_app (es fs : List En) : sumC (es ++ fs) = sumC es + sumC fs := by simp [sumC]
theorem sumC_le {es : List En} (h : ∀ e ∈ es, e.cells.length ≤ 4) : sumC es ≤ 4 * es.length := by
  induction es with
  | nil => simp [sumC]
  | cons e es ih =>
    have h1 := h e List.mem_cons_self
    have h2 := ih fun z hz => h z (List.mem_cons_of_mem _ hz)
    simp [sumC] at h2 ⊢
    omega
theorem LInv.free_ge {a : Nat} {L : LS} (h : LInv a L) (ha : a ≤ 4) : 150 ≤ L.free.length := by
  have := sumC_le h.lens
  have := h.cnt
  have := h.sum
  have := h.fr
  omega
theorem inj_spot {L : LS} {a : Nat} (h : LInv a L) {e e' : En} (he : e ∈ L.ents) (he' : e' ∈ L.ents) (hs : e'.spot = e.spot) : e' = e := by
  obtain ⟨i, hi⟩ := List.getElem?_of_mem he
  obtain ⟨j, hj⟩ := List.getElem?_of_mem he'
  have := nodup_get h.spots (i := i) (j := j) (x := e.spot) (by rw [List.getElem?_map, hi]; rfl) (by rw [List.getElem?_map, hj, ← hs]; rfl)
  subst this
  rw [hi] at hj
  exact (Option.some.inj hj).symm
theorem nums_nodup {L : LS} {a : Nat} (h : LInv a L) : (L.ents.map (·.num)).Nodup := (List.pairwise_cons.mp h.nums).2.imp fun h => Int.ne_of_lt h
theorem inj_num {L : LS} {a : Nat} (h : LInv a L) {e e' : En} (he : e ∈ L.ents) (he' : e' ∈ L.ents) (hs : e'.num = e.num) : e' = e := by
  obtain ⟨i, hi⟩ := List.getElem?_of_mem he
  obtain ⟨j, hj⟩ := List.getElem?_of_mem he'
  have := nodup_get (nums_nodup h) (i := i) (j := j) (x := e.num) (by rw [List.getElem?_map, hi]; rfl) (by rw [List.getElem?_map, hj, ← hs]; rfl)
  subst this
  rw [hi] at hj
  exact (Option.some.inj hj).symm
theorem sumC_filter {es : List En} (nd : (es.map (·.spot)).Nodup) {e : En} (he : e ∈ es) : sumC (es.filter fun q => decide (q.spot ≠ e.spot)) + e.cells.length = sumC es := by
  induction es with
  | nil => cases he
  | cons x es ih =>
    rw [List.map_cons, List.nodup_cons] at nd
    rcases List.mem_cons.mp he with rfl | he
    · have : (es.filter fun q => decide (q.spot ≠ e.spot)) = es := List.filter_eq_self.mpr fun q hq => by
        simp only [decide_eq_true_eq]
        intro z
        exact nd.1 (z ▸ List.mem_map.mpr ⟨q, hq, rfl⟩)
      rw [List.filter_cons, if_neg (by simp), this]
      simp [sumC]
      omega
    · have hx : x.spot ≠ e.spot := fun z => nd.1 (z ▸ List.mem_map.mpr ⟨e, he, rfl⟩)
      have := ih nd.2 he
      rw [List.filter_cons, if_pos (by simpa using hx)]
      simp [sumC] at this ⊢
      omega
theorem linv_step {a : Nat} {xs : List (Str × Int)} {L L' : LS} {o : Op} (ha : a ≤ 4) (h : LInv a L) (st : LStp xs L o L') : LInv a L' := by
  have hf := h.free_ge ha
  have hs := h.sum
  cases st with
  | make r x n h1 h2 h3 h4 h5 h6 =>
    refine ⟨?_, ?_, ?_, ?_, ?_, ?_, h.fr, ?_, ?_⟩
    · simp only [List.map_append, List.map_cons, List.map_nil]
      exact List.nodup_append.mpr ⟨h.spots, by simp, fun b hb c hc e => by
        simp only [List.mem_singleton] at hc
        subst hc
        subst e
        exact h2 hb⟩
    · intro e he
      rcases List.mem_append.mp he with he | he
      · exact h.rng e he
      · rw [List.mem_singleton] at he
        subst he
        exact ⟨h3, h4⟩
    · simp only [List.map_append, List.map_cons, List.map_nil]
      rw [← List.cons_append]
      refine List.pairwise_append.mpr ⟨h.nums, by simp, fun b hb c hc => ?_⟩
      simp only [List.mem_singleton] at hc
      subst hc
      rcases List.mem_cons.mp hb with hb | hb
      · have := h.made1
        omega
      · obtain ⟨e, he, rfl⟩ := List.mem_map.mp hb
        have := h.top e he
        omega
    · intro e he
      show e.num ≤ L.made + 1
      rcases List.mem_append.mp he with he | he
      · have := h.top e he
        omega
      · rw [List.mem_singleton] at he
        subst he
        exact Int.le_refl _
    · show 1 ≤ L.made + 1
      have := h.made1
      omega
    · intro e he
      rcases List.mem_append.mp he with he | he
      · exact h.lens e he
      · rw [List.mem_singleton] at he
        subst he
        simp
        omega
    · simp
      omega
    · show (L.free.drop n).length + (sumC (L.ents ++ [⟨r, L.made + 1, x, L.free.take n⟩]) + frL L.frame) + a = 200
      rw [sumC_app]
      simp [sumC] at hs ⊢
      omega
  | opn e he =>
    have hsub : ∀ q ∈ L.ents.filter (fun q => decide (q.spot ≠ e.spot)), q ∈ L.ents := fun q hq => (List.mem_filter.mp hq).1
    refine ⟨?_, fun q hq => h.rng q (hsub q hq), ?_, fun q hq => h.top q (hsub q hq), h.made1, fun q hq => h.lens q (hsub q hq), h.fr, ?_, ?_⟩
    · exact h.spots.sublist (List.Sublist.map _ List.filter_sublist)
    · exact h.nums.sublist ((List.Sublist.map _ List.filter_sublist).cons₂ _)
    · exact Nat.le_trans (List.length_filter_le _ _) h.cnt
    · have := sumC_filter h.spots he
      show (e.cells ++ L.free).length + (sumC (L.ents.filter fun q => decide (q.spot ≠ e.spot)) + frL L.frame) + a = 200
      rw [List.length_append]
      omega
  | enter k h1 h2 =>
    refine ⟨h.spots, h.rng, h.nums, h.top, h.made1, h.lens, ?_, h.cnt, ?_⟩
    · show (L.free.take k).length ≤ 3
      rw [List.length_take]
      omega
    · show (L.free.drop k).length + (sumC L.ents + (L.free.take k).length) + a = 200
      rw [h1] at hs
      simp only [frL] at hs
      rw [List.length_take, List.length_drop]
      omega
  | leave cs h1 =>
    refine ⟨h.spots, h.rng, h.nums, h.top, h.made1, h.lens, Nat.zero_le _, h.cnt, ?_⟩
    show (cs ++ L.free).length + (sumC L.ents + 0) + a = 200
    rw [h1] at hs
    simp only [frL] at hs
    rw [List.length_append]
    omega
theorem ns_keys {a : Nat} {L : LS} (h : LInv a L) (cs0 : List Int) : ((nsOf cs0 L).map (·.1)).Pairwise (· < ·) := by
  have e : (nsOf cs0 L).map (·.1) = 1 :: L.ents.map (·.num) := by
    simp only [nsOf, List.map_cons, List.map_map]
    rfl
  rw [e]
  exact h.nums
theorem regs_keys {a : Nat} {L : LS} (h : LInv a L) : ((regsOf L).map (·.1)).Nodup := by
  have e : (regsOf L).map (·.1) = 0 :: L.ents.map (·.spot) := by
    simp only [regsOf, List.map_cons, List.map_map]
    rfl
  rw [e]
  refine List.nodup_cons.mpr ⟨fun hm => ?_, h.spots⟩
  obtain ⟨q, hq, e⟩ := List.mem_map.mp hm
  have := (h.rng q hq).1
  omega
theorem stp_of {a : Nat} {xs : List (Str × Int)} {ins : List PyData} {cs0 : List Int} {L L' : LS} {o : Op} {pl : Int} {moms : List Int} (ha : a ≤ 4) (h : LInv a L) (st : LStp xs L o L') : Stp (toMS xs ins cs0 L pl moms) o (toMS xs ins cs0 L' (pl + 1) (moms ++ [(200 : Int) - ((L'.free.length : Nat) : Int)])) := by
  have hf := h.free_ge ha
  have hs := h.sum
  have nk : ((nsOf cs0 L).map (·.1)).Nodup := (ns_keys h cs0).imp fun h => Int.ne_of_lt h
  cases st with
  | make r x n h1 h2 h3 h4 h5 h6 =>
    have := Stp.make (s := toMS xs ins cs0 L pl moms) r x n h5 (by
      simp only [toMS, regsOf, List.map_cons, List.map_map, List.mem_cons, not_or]
      exact ⟨by omega, h2⟩) (by
      simp only [toMS, nsOf, List.map_cons, List.map_map, List.mem_cons, not_or]
      refine ⟨by have := h.made1; omega, fun hm => ?_⟩
      obtain ⟨q, hq, e⟩ := List.mem_map.mp hm
      have h7 := h.top q hq
      have e : q.num = L.made + 1 := e
      omega) (by simp only [toMS]; omega) (by omega)
    have e : MS.noted { toMS xs ins cs0 L pl moms with free := (toMS xs ins cs0 L pl moms).free.drop n, ns := (toMS xs ins cs0 L pl moms).ns ++ [((toMS xs ins cs0 L pl moms).made + 1, x, (toMS xs ins cs0 L pl moms).free.take n)], made := (toMS xs ins cs0 L pl moms).made + 1, regs := (toMS xs ins cs0 L pl moms).regs ++ [(r, (toMS xs ins cs0 L pl moms).made + 1)] } = toMS xs ins cs0 ⟨L.free.drop n, L.ents ++ [⟨r, L.made + 1, x, L.free.take n⟩], L.made + 1, L.frame⟩ (pl + 1) (moms ++ [(200 : Int) - (((L.free.drop n).length : Nat) : Int)]) := by
      simp [toMS, MS.noted, nsOf, regsOf]
    rw [← e]
    exact this
  | opn e he =>
    have v1 : valR (regsR (regsOf L)) (Sum.inl e.spot : Key) = some (.int e.num) := val_reg (regs_keys h) (q := (e.spot, e.num)) (List.mem_cons_of_mem _ (List.mem_map.mpr ⟨e, he, rfl⟩))
    have v2 : valR (nodesR (nsOf cs0 L)) (Sum.inl e.num : Key) = some (.dat (nodeT e.name e.cells)) := val_node nk (q := (e.num, e.name, e.cells)) (List.mem_cons_of_mem _ (List.mem_map.mpr ⟨e, he, rfl⟩))
    have hl := h.lens e he
    have := Stp.opn (s := toMS xs ins cs0 L pl moms) e.spot e.num e.name e.cells v1 v2 (by simp only [toMS]; omega)
    have hr := h.rng e he
    have hn : 1 < e.num := (List.pairwise_cons.mp h.nums).1 _ (List.mem_map.mpr ⟨e, he, rfl⟩)
    have e1 : (regsOf L).filter (fun q => decide (q.1 ≠ e.spot)) = regsOf ⟨e.cells ++ L.free, L.ents.filter (fun q => decide (q.spot ≠ e.spot)), L.made, L.frame⟩ := by
      unfold regsOf
      rw [List.filter_cons, if_pos (by simp; omega), List.filter_map]
      rfl
    have e2 : (nsOf cs0 L).filter (fun q => decide (q.1 ≠ e.num)) = nsOf cs0 ⟨e.cells ++ L.free, L.ents.filter (fun q => decide (q.spot ≠ e.spot)), L.made, L.frame⟩ := by
      unfold nsOf
      rw [List.filter_cons, if_pos (by simp; omega), List.filter_map]
      congr 2
      apply List.filter_congr
      intro q hq
      show decide (q.num ≠ e.num) = decide (q.spot ≠ e.spot)
      by_cases hz : q.spot = e.spot
      · rw [inj_spot h he hq hz]
        simp
      · have : q.num ≠ e.num := fun z => hz (by rw [inj_num h he hq z])
        simp [hz, this]
    have e3 : MS.noted { toMS xs ins cs0 L pl moms with free := e.cells ++ (toMS xs ins cs0 L pl moms).free, ns := (toMS xs ins cs0 L pl moms).ns.filter (fun q => decide (q.1 ≠ e.num)), regs := (toMS xs ins cs0 L pl moms).regs.filter (fun q => decide (q.1 ≠ e.spot)) } = toMS xs ins cs0 ⟨e.cells ++ L.free, L.ents.filter (fun q => decide (q.spot ≠ e.spot)), L.made, L.frame⟩ (pl + 1) (moms ++ [(200 : Int) - (((e.cells ++ L.free).length : Nat) : Int)]) := by
      simp only [toMS, MS.noted, e1, e2]
    rw [← e3]
    exact this
  | enter k h1 h2 => exact Stp.enter (s := toMS xs ins cs0 L pl moms) k h1 (by simp only [toMS]; omega) (by omega)
  | leave cs h1 =>
    have hfr := h.fr
    rw [h1] at hfr
    simp only [frL] at hfr
    exact Stp.leave (s := toMS xs ins cs0 L pl moms) cs h1 (by simp only [toMS]; omega)
/-! ### many steps -/
inductive Ch (xs : List (Str × Int)) (L0 : LS) : List (Op × LS) → LS → Prop
  | nil : Ch xs L0 [] L0
  | snoc {h : List (Op × LS)} {L L' : LS} {o : Op} : Ch xs L0 h L → LStp xs L o L' → Ch xs L0 (h ++ [(o, L')]) L'
def stAt (L0 : LS) (h : List (Op × LS)) : Nat → LS
  | 0 => L0
  | k + 1 => (h[k]?.map (·.2)).getD L0
theorem Ch.last {xs : List (Str × Int)} {L0 L : LS} {h : List (Op × LS)} (c : Ch xs L0 h L) : stAt L0 h h.length = L := by
  cases c with
  | nil => rfl
  | snoc c st => simp [stAt]
theorem Ch.at_ {a : Nat} {xs : List (Str × Int)} {L0 L : LS} {h : List (Op × LS)} (ha : a ≤ 4) (h0 : LInv a L0) (c : Ch xs L0 h L) : LInv a L ∧ ∀ k o L', h[k]? = some (o, L') → LStp xs (stAt L0 h k) o L' ∧ LInv a (stAt L0 h k) ∧ LInv a L' := by
  induction c with
  | nil => exact ⟨h0, fun k o L' e => by simp at e⟩
  | @snoc h L L' o c st ih =>
    have i2 := linv_step ha ih.1 st
    refine ⟨i2, fun k o' L'' e => ?_⟩
    have keep : ∀ k, k ≤ h.length → stAt L0 (h ++ [(o, L')]) k = stAt L0 h k := fun k hk => by
      cases k with
      | zero => rfl
      | succ k =>
        show ((h ++ [(o, L')])[k]?.map (·.2)).getD L0 = (h[k]?.map (·.2)).getD L0
        rw [List.getElem?_append_left (by omega)]
    by_cases hk : k < h.length
    · rw [List.getElem?_append_left hk] at e
      rw [keep k (by omega)]
      exact ih.2 k o' L'' e
    · have hk2 : k = h.length := by
        have := (List.getElem?_eq_some_iff.mp e).1
        simp at this
        omega
      subst hk2
      rw [keep _ (Nat.le_refl _), c.last]
      simp at e
      obtain ⟨rfl, rfl⟩ := e
      exact ⟨st, ih.1, i2⟩
theorem range_drop (a : Nat) (ha : a ≤ 200) : rangeD (a : Int) (200 - (a : Int)).toNat = iR (free0.drop a) := by
  unfold rangeD iR free0
  apply List.ext_getElem
  · simp
  · intro i h1 h2
    simp
theorem range_take (a : Nat) (ha : a ≤ 200) : intsD 0 ((a : Int) - 0).toNat = iD (free0.take a) := by
  unfold intsD iD free0
  apply List.ext_getElem
  · simp
    omega
  · intro i h1 h2
    simp
/-- the start -/
def L00 (a : Nat) : LS := ⟨free0.drop a, [], 1, none⟩
theorem linv0 {a : Nat} (ha : a ≤ 4) : LInv a (L00 a) := by
  refine ⟨by simp [L00], by simp [L00], by simp [L00], by simp [L00], by simp [L00], by simp [L00], by simp [L00, frL], by simp [L00], ?_⟩
  simp [L00, sumC, frL, free0]
  omega
/-- how many cells are told -/
theorem sum_seen {a : Nat} {L : LS} (h : LInv a L) (ha : a ≤ 4) : ((nsOf (free0.take a) L).map (fun q => q.2.2.length)).sum + frL L.frame + L.free.length = 200 := by
  have hs := h.sum
  have e : (free0.take a).length = a := by simp [free0]; omega
  simp only [nsOf, List.map_cons, List.map_map, List.sum_cons, e]
  have e2 : (L.ents.map ((fun q : ND => q.2.2.length) ∘ fun e => (e.num, e.name, e.cells))).sum = sumC L.ents := rfl
  rw [e2]
  omega
end K71
end

section
open PySem PySem.Spec PyProof.Rows L2 DL SH
/-! K71R: the law's end: the machine, turn by turn. -/
namespace K71
abbrev sLaw : Stmt := top 63
theorem lay_ints (cs : List Int) : PyData.canLayAll0 (iD cs) = true ∧ PyData.depthAll (iD cs) = 0 ∧ PyData.plainAll (iD cs) = true := by
  induction cs with
  | nil => exact ⟨by simp [iD, PyData.canLayAll0], by simp [iD, PyData.depthAll], by simp [iD, PyData.plainAll]⟩
  | cons c cs ih =>
    obtain ⟨h1, h2, h3⟩ := ih
    unfold iD at h1 h2 h3
    refine ⟨?_, ?_, ?_⟩
    · simp [iD, PyData.canLayAll0, PyData.canLay0, h1]
    · simp [iD, PyData.depthAll, PyData.depth, h2]
    · simp [iD, PyData.plainAll, PyData.plain, h3]
def rowX (d : PyData) : Prop := ∃ (s : Str) (cs : List Int), d = .tuple [.str s, .tuple (iD cs)] ∧ PyData.strOk s = true
theorem lay_rows {ds : List PyData} (h : ∀ d ∈ ds, rowX d) : PyData.canLayAll0 ds = true ∧ PyData.depthAll ds ≤ 3 ∧ PyData.plainAll ds = true := by
  induction ds with
  | nil => exact ⟨by simp [PyData.canLayAll0], by simp [PyData.depthAll], by simp [PyData.plainAll]⟩
  | cons d ds ih =>
    obtain ⟨h1, h2, h3⟩ := ih fun x hx => h x (List.mem_cons_of_mem _ hx)
    obtain ⟨s, cs, rfl, ok⟩ := h d List.mem_cons_self
    obtain ⟨i1, i2, i3⟩ := lay_ints cs
    refine ⟨?_, ?_, ?_⟩
    · simp [PyData.canLayAll0, PyData.canLay0, h1, i1, ok]
    · simp [PyData.depthAll, PyData.depth, i2]
      omega
    · simp [PyData.plainAll, PyData.plain, h3, i3]
theorem shp_rows {ds : List PyData} (h : ∀ d ∈ ds, rowX d) : SeqAt.shaped (.tuple ds) = true ∧ PyData.eqv (.tuple ds) (.tuple ds) = true := by
  obtain ⟨h1, h2, h3⟩ := lay_rows h
  refine ⟨?_, ?_⟩
  · unfold SeqAt.shaped
    simp [PyData.canLay0, h1, PyData.depth]
    omega
  · exact PySem.SeqAt.eqv_refl_plain _ (by simpa [PyData.plain] using h3)
theorem seen_rows {cs0 : List Int} {L : LS} (h : ∀ e ∈ L.ents, PyData.strOk e.name = true) : ∀ d ∈ seenD (nsOf cs0 L) L.frame, rowX d := by
  intro d hd
  rcases List.mem_append.mp hd with hd | hd
  · obtain ⟨q, hq, rfl⟩ := List.mem_map.mp hd
    rcases List.mem_cons.mp hq with rfl | hq
    · exact ⟨"na", cs0, rfl, by decide +kernel⟩
    · obtain ⟨e, he, rfl⟩ := List.mem_map.mp hq
      exact ⟨e.name, e.cells, rfl, h e he⟩
  · cases hf : L.frame with
    | none => rw [hf] at hd; cases hd
    | some cs =>
      rw [hf] at hd
      rw [List.mem_singleton.mp hd]
      exact ⟨"frame", cs, rfl, by decide +kernel⟩
theorem ch_names {xs : List (Str × Int)} {L0 L : LS} {h : List (Op × LS)} (hx : ∀ p ∈ xs, PyData.strOk p.1 = true) (h0 : ∀ e ∈ L0.ents, PyData.strOk e.name = true) (c : Ch xs L0 h L) :
    (∀ e ∈ L.ents, PyData.strOk e.name = true) ∧ ∀ p ∈ h, ∀ e ∈ p.2.ents, PyData.strOk e.name = true := by
  induction c with
  | nil => exact ⟨h0, nofun⟩
  | @snoc h L L' o c st ih =>
    have h1 : ∀ e ∈ L'.ents, PyData.strOk e.name = true := by
      cases st with
      | make r x n _ _ _ _ hv _ =>
        intro e he
        rcases List.mem_append.mp he with he | he
        · exact ih.1 e he
        · rw [List.mem_singleton.mp he]
          obtain ⟨n', hm, _⟩ := known_mem hv
          exact hx _ hm
      | opn e he => exact fun q hq => ih.1 q (List.mem_filter.mp hq).1
      | enter k _ _ => exact ih.1
      | leave cs _ => exact ih.1
    refine ⟨h1, fun p hp => ?_⟩
    rcases List.mem_append.mp hp with hp | hp
    · exact ih.2 p hp
    · rw [List.mem_singleton.mp hp]
      exact h1
def lensI (ns : List ND) (fr : Option (List Int)) : List Int := ns.map (fun q => ((q.2.2.length : Nat) : Int)) ++ match fr with
  | none => []
  | some cs => [((cs.length : Nat) : Int)]
theorem sum_cast (ns : List ND) : (ns.map (fun q => ((q.2.2.length : Nat) : Int))).sum = (((ns.map fun q => q.2.2.length).sum : Nat) : Int) := by
  induction ns with
  | nil => rfl
  | cons q ns ih => simp [ih]
theorem lens_sum {a : Nat} {L : LS} (h : LInv a L) (ha : a ≤ 4) : (lensI (nsOf (free0.take a) L) L.frame).sum = 200 - ((L.free.length : Nat) : Int) := by
  have := sum_seen h ha
  unfold lensI
  rw [List.sum_append, sum_cast]
  cases hf : L.frame with
  | none =>
    rw [hf] at this
    simp only [frL] at this
    simp
    omega
  | some cs =>
    rw [hf] at this
    simp only [frL] at this
    simp
    omega
def gLen : Rv → Rv
  | .dat (.tuple [_, .tuple cs]) => .int (cs.length : Nat)
  | r => r
theorem g_lens (ns : List ND) (fr : Option (List Int)) : ((seenD ns fr).map Rv.dat).map gLen = (lensI ns fr).map Rv.int := by
  unfold seenD lensI
  rw [List.map_append, List.map_append, List.map_append]
  congr 1
  · rw [List.map_map, List.map_map, List.map_map]
    apply List.map_congr_left
    intro q _
    simp [rowD, gLen, iD]
  · cases fr with
    | none => rfl
    | some cs => simp [frameD, gLen, iD]
/-- an instruction of the law is one that a code takes -/
theorem ins_of {a : Nat} {xs : List (Str × Int)} {L L' : LS} {o : Op} (h : LInv a L) (st : LStp xs L o L') : InsOk (knownR xs) (opD o) := by
  cases st with
  | make r x n h1 h2 h3 h4 h5 h6 => exact .make r x n (by omega) (by omega) h5
  | opn e he =>
    have := h.rng e he
    exact .opn _ (by omega) (by omega)
  | enter k h1 h2 => exact .enter _ (by omega) (by omega)
  | leave cs h1 =>
    have := h.fr
    rw [h1] at this
    simp only [frL] at this
    exact .leave _ (by omega) (by omega)
def giveD : PyData := instD "give" [.int 0]
def rowsD (h : List (Op × LS)) : List PyData := h.map fun p => opD p.1
def duesD (cs0 : List Int) (h : List (Op × LS)) : List PyData := h.map fun p => dueD cs0 p.2
def hkD (L : LS) : List (Key × D) := L.ents.map fun e => ((Sum.inl e.spot : Key), PyData.tuple [.str e.name, .tuple (iD e.cells)])
abbrev nLaw : List Str := ["script", "pen", "sizes", "one", "nodes", "at", "size", "rows", "due", "free", "held", "frame", "first", "order", "lap", "way", "spot", "name", "none", "cells", "machine", "told", "row"]
theorem scLaw : FnScope nLaw ["script"] (defScope sLaw) := ⟨rfl, rfl, rfl, by decide +kernel, rfl, by decide +kernel, by decide +kernel⟩
end K71
end

section
open PySem PySem.Spec PyProof.Rows L2 DL SH
/-! K71S: the law's end. -/
namespace K71
theorem JW_at {X : Cx} {e : Expr} {δ : S} {Ψ : Bool → S → Prop} (δ' : S) (h0 : δ = δ') (h : JW X e δ' Ψ) : JW X e δ Ψ := h0 ▸ h
theorem J_at {X : Cx} {e : Expr} {δ : S} {Φ : Post} (δ' : S) (h0 : δ = δ') (h : J X e δ' Φ) : J X e δ Φ := h0 ▸ h
section
variable {P : Program} {w : World} {K : PySem.W.Frag} {mg : Str → Option Value} {base : Heap} {f : Addr} {fd : FuncData} {c : CA}
/-- all the law calls -/
structure Cs (P : Program) (w : World) (K : PySem.W.Frag) (mg : Str → Option Value) (base : Heap) (c : CA) : Prop where
  cl : ClA K c
  code : CalCode P w K mg base c.code
  init : CalInit P w K mg base c
  step : CalStep P w K mg base c
  seen : CalSeen P w K mg base c
  taken : CalTaken P w K mg base c
  held : CalHeld P w K mg base c
  pen : CalPen P w K mg base
  draw : CalDraw P w K mg base
  pick : CalPick P w K mg base
abbrev XL (P : Program) (w : World) (K : PySem.W.Frag) (mg : Str → Option Value) (base : Heap) (f : Addr) (cdv : Value) (A : Around) (outer : List Env) (s : Shared) (H : Hp) : Cx := bodyX P w K mg base nLaw "law" (defScope sLaw) f cdv A outer s H
theorem law_loop {cdv : Value} {A0 : Around} {outer : List Env} {s0 : Shared} {H : Hp} {Φ : Rv → Obs → Prop} (CS : Cs P w K mg base c) (T : Tx mg) (hr : GR 9 (XL P w K mg base f cdv A0 outer s0 H).A)
    {a : Nat} {xs : List (Str × Int)} {hi : List (Op × LS)} {L : LS} (ha : a ≤ 4) (hx : ∀ p ∈ xs, PyData.strOk p.1 = true) (ch : Ch xs (L00 a) hi L) (hlen : hi.length = 40)
    (A : MA) (du he : Addr) (v0 v1 v2 v3 v4 v5 v6 v7 v9 v11 v12 v13 v14 v15 v16 v17 v18 v19 v22 : Option Rv) (mo : List Int) (hmo : mo.length = 1)
    (fin : ∀ (v21 : Option Rv) (mo : List Int), mo.length = 41 → JSs (XL P w K mg base f cdv A0 outer s0 H) ((defBody sLaw).drop 9) ⟨[v0, v1, v2, v3, v4, v5, v6, v7, some (.adr du), v9, some (.adr he), v11, v12, v13, v14, v15, v16, v17, v18, v19, some (.adr A.m), v21, v22], mob c A (toMS xs (rowsD hi ++ [giveD]) (free0.take a) L 40 mo) ++ [(du, .lst ((duesD (free0.take a) hi).map .dat)), (he, .dk (datK (hkD L)))]⟩ (outE Φ)) :
    JSs (XL P w K mg base f cdv A0 outer s0 H) ((defBody sLaw).drop 8) ⟨[v0, v1, v2, v3, v4, v5, v6, v7, some (.adr du), v9, some (.adr he), v11, v12, v13, v14, v15, v16, v17, v18, v19, some (.adr A.m), none, v22], mob c A (toMS xs (rowsD hi ++ [giveD]) (free0.take a) (L00 a) 0 mo) ++ [(du, .lst ((duesD (free0.take a) hi).map .dat)), (he, .dk (datK (hkD L)))]⟩ (outE Φ) := by
  have hu64 := hr.room.units
  have cl := CS.cl
  obtain ⟨iL, cat⟩ := ch.at_ ha (linv0 ha)
  obtain ⟨nL, nh⟩ := ch_names hx (by simp [L00]) ch
  refine JSs_cons <| @JS_for _ _ _ _ _ _ _ [21] PassesOwn.never rfl ?_ (fun _ => rfl)
  refine JI_lstO <| J_name 8 rfl ⟨du, 10, _, rfl, rfl, fun k δ => ∃ (v21 : Option Rv) (mo : List Int), mo.length = k + 1 ∧ δ = ⟨[v0, v1, v2, v3, v4, v5, v6, v7, some (.adr du), v9, some (.adr he), v11, v12, v13, v14, v15, v16, v17, v18, v19, some (.adr A.m), v21, v22], mob c A (toMS xs (rowsD hi ++ [giveD]) (free0.take a) (stAt (L00 a) hi k) (k : Nat) mo) ++ [(du, .lst ((duesD (free0.take a) hi).map .dat)), (he, .dk (datK (hkD L)))]⟩, ⟨none, mo, hmo, rfl⟩, ?_, ?_, ?_⟩
  · rintro k δ ⟨v21, mo, _, rfl⟩
    exact List.mem_of_getElem? (i := 10) rfl
  · rintro k d δ hd ⟨v21, mo, hm, rfl⟩
    obtain ⟨⟨o, L'⟩, hk, rfl⟩ : ∃ p, hi[k]? = some p ∧ d = .dat (dueD (free0.take a) p.2) := by
      unfold duesD at hd
      rw [List.getElem?_map, List.getElem?_map] at hd
      cases hx : hi[k]? with
      | none => rw [hx] at hd; cases hd
      | some p => rw [hx] at hd; cases hd; exact ⟨p, rfl, rfl⟩
    obtain ⟨st, i1, i2⟩ := cat k o L' hk
    have hk40 : k < 40 := by
      have := (List.getElem?_eq_some_iff.mp hk).1
      omega
    have hst : stAt (L00 a) hi (k + 1) = L' := by
      show (hi[k]?.map (·.2)).getD (L00 a) = L'
      rw [hk]
      rfl
    have nm : ∀ e ∈ L'.ents, PyData.strOk e.name = true := nh _ (List.mem_of_getElem? hk)
    obtain ⟨sh, eq⟩ := shp_rows (seen_rows (cs0 := free0.take a) nm)
    have eq2 : (!(PyData.eqv (dueD (free0.take a) L') (dueD (free0.take a) L'))) = false := by
      unfold dueD
      rw [eq]
      rfl
    have rm : (toMS xs (rowsD hi ++ [giveD]) (free0.take a) (stAt (L00 a) hi k) (k : Nat) mo).Rm := by
      refine ⟨?_, ?_, ?_, ?_⟩
      · simp [toMS, rowsD, hlen]
        omega
      · simp only [toMS]
        omega
      · have := i1.cnt
        simp [toMS, regsOf]
        omega
      · have := i1.cnt
        simp [toMS, nsOf]
        omega
    have hins : (toMS xs (rowsD hi ++ [giveD]) (free0.take a) (stAt (L00 a) hi k) (k : Nat) mo).ins[k]? = some (opD o) := by
      simp only [toMS]
      rw [List.getElem?_append_left (by simp [rowsD]; omega)]
      unfold rowsD
      rw [List.getElem?_map, hk]
      rfl
    refine JG_name 21 scLaw.nd ?_
    have stp := stp_of (ins := rowsD hi ++ [giveD]) (cs0 := free0.take a) (pl := (k : Nat)) (moms := mo) ha i1 st
    let s' : MS := toMS xs (rowsD hi ++ [giveD]) (free0.take a) L' (((k : Nat) : Int) + 1) (mo ++ [(200 : Int) - ((L'.free.length : Nat) : Int)])
    let SL : List (Option Rv) := [v0, v1, v2, v3, v4, v5, v6, v7, some (.adr du), v9, some (.adr he), v11, v12, v13, v14, v15, v16, v17, v18, v19, some (.adr A.m), some (.dat (dueD (free0.take a) L')), v22]
    let TL : Obs := [(du, .lst ((duesD (free0.take a) hi).map .dat)), (he, .dk (datK (hkD L)))]
    refine JSs_cons <| JS_if <| JT_w <| JW_or <| JT_cmp op_ne (by rfl) <| J_cm0 CS.step cl.mach.cls hr <| J_name 20 rfl ⟨A.m, A.md, 0, _, rfl, rfl, rfl, [0, 1, 2, 3, 4, 5, 6, 7, 8, 9], by decide, by simp [mob], rfl, A, _, s', o, k, rfl, rm, rfl, hins, stp, by simp [mob], rfl, J_str <| RJ_neS ⟨false, congrArg Rv.bool (by decide +kernel), nofun, fun _ => ?_⟩⟩
    refine JW_at ⟨SL, mob c A s' ++ TL⟩ rfl ?_
    refine JW_or <| JT_cmp (op_neD hu64) (by rfl) <| J_cm0 CS.seen cl.mach.cls hr <| J_name 20 rfl ⟨A.m, A.md, 0, _, rfl, rfl, rfl, [0, 1, 2, 3, 4, 5, 6, 7, 8, 9], by decide, by simp [mob], rfl, A, s', rfl, ns_keys i2 _, ?_, by simp [mob], rfl, J_name 21 rfl <| RJ_neD sh sh ⟨false, congrArg Rv.bool eq2, nofun, fun _ => ?_⟩⟩
    · have := i2.cnt
      simp [s', toMS, nsOf]
      omega
    refine JW_at ⟨SL, mob c A s' ++ TL⟩ rfl ?_
    refine JW_or1 <| JT_cmp op_ne (by rfl) <| J_cm0 CS.taken cl.mach.cls hr <| J_name 20 rfl ⟨A.m, A.md, 0, _, rfl, rfl, rfl, [0, 3, 4], by decide, by simp [mob], rfl, A.m, A.md, A.ce, A.ced, A.fl, machF A s', L'.free, 200, rfl, rfl, rfl, by simp [mob], rfl, ?_⟩
    refine J_at ⟨SL, mob c A s' ++ TL⟩ rfl ?_
    refine J_callB (cr_sum rfl) T.sum <| JA_cons <| J_lcP rfl scLaw.nd (blkOk_by (own := [("row", 22)]) (N := nLaw) (sc := defScope sLaw) (by decide +kernel)) <| JI_dat <| J_name 21 rfl ⟨_, seenD (nsOf (free0.take a) L') L'.frame, rfl, rfl, fun _ => true, gLen, trivial, fun d hd Y hY => ?_, fun sl => ?_⟩
    · obtain ⟨s1, H1, C1, cl1, fp, rfl⟩ := hY
      obtain ⟨d', hd', rfl⟩ := List.mem_map.mp hd
      obtain ⟨s, cs, rfl, _⟩ := seen_rows (cs0 := free0.take a) nm d' hd'
      refine JG_name 22 scLaw.nd fun Y2 hY2 => JTs_nil ⟨rfl, rfl, fun _ Y3 hY3 => ?_⟩
      obtain ⟨s3, H3, C3, cl3, fp3, rfl⟩ := hY3
      refine J_callB call_len T.len <| JA_cons <| J_ix ix_seq <| J_name 22 rfl <| J_int <| RJ_ix (xs := [.str s, .tuple (iD cs)]) .dt rfl <| JA_nil <| RC_len .dt ⟨?_, rfl⟩
      rw [List.length_map]
      rfl
    · rw [pick_all, g_lens]
      refine JA_nil <| RC_sum (.ol 12 rfl) <| RJ_neI ⟨false, ?_, nofun, fun _ => JSs_nil ?_⟩
      · rw [lens_sum i2 ha]
        simp
      · refine JSs_pick [0, 1, 2, 3, 4, 5, 6, 7, 8, 9, 10, 11] (by decide) <| JSs_nil ⟨some (.dat (dueD (free0.take a) L')), mo ++ [(200 : Int) - ((L'.free.length : Nat) : Int)], ?_, ?_⟩
        · simp
          omega
        · rw [hst]
          rfl
  · rintro δ ⟨v21, mo, hm, rfl⟩
    have e : ((duesD (free0.take a) hi).map Rv.dat).length = 40 := by simp [duesD, hlen]
    rw [e] at hm
    have e2 : stAt (L00 a) hi ((duesD (free0.take a) hi).map Rv.dat).length = L := by
      rw [e, ← hlen]
      exact ch.last
    rw [e2, e]
    exact fin v21 mo hm
end
end K71
end

section
open PySem PySem.Spec PyProof.Rows L2 DL SH
/-! K71T: the law's last line. -/
namespace K71
theorem sort_uniqP : ∀ {l m : List (Int × Int)}, l.Perm m → l.Pairwise (fun a b => a.1 < b.1) → m.Pairwise (fun a b => a.1 < b.1) → l = m
  | [], m, h, _, _ => (List.nil_perm.mp h).symm
  | x :: l, [], h, _, _ => by cases (List.perm_nil.mp h)
  | x :: l, y :: m, h, h1, h2 => by
    rw [List.pairwise_cons] at h1 h2
    have hxy : x = y := by
      have a : x ∈ y :: m := h.mem_iff.mp List.mem_cons_self
      have b : y ∈ x :: l := h.mem_iff.mpr List.mem_cons_self
      rcases List.mem_cons.mp a with a | a
      · exact a
      · rcases List.mem_cons.mp b with b | b
        · exact b.symm
        · have := h2.1 x a
          have := h1.1 y b
          omega
    subst hxy
    rw [sort_uniqP (List.perm_cons x |>.mp h) h1.2 h2.2]
/-- the registers, ascending, by the places ys -/
def regL (L : LS) (ys : List Int) : List (Int × Int) := ys.map fun y => (y, regOf (regsOf L) y)
theorem reg_spot {a : Nat} {L : LS} (h : LInv a L) {e : En} (he : e ∈ L.ents) : regOf (regsOf L) e.spot = e.num := regOf_of (regs_keys h) (q := (e.spot, e.num)) (List.mem_cons_of_mem _ (List.mem_map.mpr ⟨e, he, rfl⟩))
theorem regL_ok {a : Nat} {L : LS} (h : LInv a L) {ys : List Int} (hp : ys.Perm (L.ents.map (·.spot))) (hs : ys.Pairwise (· ≤ ·)) : (((0 : Int), (1 : Int)) :: regL L ys).Perm (regsOf L) ∧ (((0 : Int), (1 : Int)) :: regL L ys).Pairwise (fun a b => a.1 < b.1) := by
  have h1 : (regL L ys).Perm (L.ents.map fun e => (e.spot, e.num)) := by
    have := hp.map fun y => (y, regOf (regsOf L) y)
    have e : ((L.ents.map (·.spot)).map fun y => (y, regOf (regsOf L) y)) = L.ents.map fun e => (e.spot, e.num) := by
      rw [List.map_map]
      apply List.map_congr_left
      intro e he
      show (e.spot, regOf (regsOf L) e.spot) = _
      rw [reg_spot h he]
    rw [e] at this
    exact this
  refine ⟨h1.cons _, List.pairwise_cons.mpr ⟨fun q hq => ?_, List.pairwise_map.mpr (le_lt hs (hp.nodup_iff.mpr h.spots))⟩⟩
  obtain ⟨y, hy, rfl⟩ := List.mem_map.mp hq
  obtain ⟨e, he, rfl⟩ := List.mem_map.mp (hp.mem_iff.mp hy)
  have := (h.rng e he).1
  show (0 : Int) < e.spot
  omega
def gSpot (L : LS) : Rv → Rv
  | .dat (.tuple [_, .int y]) => .dat (.tuple [.int y, .int (regOf (regsOf L) y)])
  | r => r
theorem lay_pairs (l : List (Int × Int)) : PyData.canLayAll0 (pairI2 l) = true ∧ PyData.depthAll (pairI2 l) ≤ 2 ∧ PyData.plainAll (pairI2 l) = true := by
  induction l with
  | nil => exact ⟨by simp [pairI2, PyData.canLayAll0], by simp [pairI2, PyData.depthAll], by simp [pairI2, PyData.plainAll]⟩
  | cons q l ih =>
    obtain ⟨h1, h2, h3⟩ := ih
    unfold pairI2 at h1 h2 h3
    refine ⟨?_, ?_, ?_⟩
    · simp [pairI2, PyData.canLayAll0, PyData.canLay0, h1]
    · simp [pairI2, PyData.depthAll, PyData.depth]
      omega
    · simp [pairI2, PyData.plainAll, PyData.plain, h3]
theorem shp_pairs (l : List (Int × Int)) : SeqAt.shaped (.tuple (pairI2 l)) = true ∧ PyData.eqv (.tuple (pairI2 l)) (.tuple (pairI2 l)) = true := by
  obtain ⟨h1, h2, h3⟩ := lay_pairs l
  refine ⟨?_, ?_⟩
  · unfold SeqAt.shaped
    simp [PyData.canLay0, h1, PyData.depth]
    omega
  · exact PySem.SeqAt.eqv_refl_plain _ (by simpa [PyData.plain] using h3)
theorem hkD_keys (L : LS) : (datK (hkD L)).map (·.1) = (L.ents.map (·.spot)).map (Sum.inl : Int → Key) := by
  unfold datK hkD
  rw [List.map_map, List.map_map, List.map_map]
  rfl
section
variable {P : Program} {w : World} {K : PySem.W.Frag} {mg : Str → Option Value} {base : Heap} {f : Addr} {fd : FuncData} {c : CA}
theorem law_fin {cdv : Value} {A0 : Around} {outer : List Env} {s0 : Shared} {H : Hp} {Φ : Rv → Obs → Prop} (CS : Cs P w K mg base c) (T : Tx mg) (hr : GR 9 (XL P w K mg base f cdv A0 outer s0 H).A) (q : Φ (.bool true) [])
    {a : Nat} {xs : List (Str × Int)} {ins : List PyData} {cs0 : List Int} {L : LS} (iL : LInv a L)
    (A : MA) (he du : Addr) (X : MO) (v0 v1 v2 v3 v4 v5 v6 v7 v8 v9 v11 v12 v13 v14 v15 v16 v17 v18 v19 v21 v22 : Option Rv) (mo : List Int) (hmo : mo.length = 41) :
    JSs (XL P w K mg base f cdv A0 outer s0 H) ((defBody sLaw).drop 9) ⟨[v0, v1, v2, v3, v4, v5, v6, v7, v8, v9, some (.adr he), v11, v12, v13, v14, v15, v16, v17, v18, v19, some (.adr A.m), v21, v22], mob c A (toMS xs ins cs0 L 40 mo) ++ [(du, X), (he, .dk (datK (hkD L)))]⟩ (outE Φ) := by
  have hu64 := hr.room.units
  have cl := CS.cl
  let S : MS := toMS xs ins cs0 L 40 mo
  let SL : List (Option Rv) := [v0, v1, v2, v3, v4, v5, v6, v7, v8, v9, some (.adr he), v11, v12, v13, v14, v15, v16, v17, v18, v19, some (.adr A.m), v21, v22]
  let B : Obs := mob c A S ++ [(du, X), (he, .dk (datK (hkD L)))]
  have hz : (regsOf L).length < 64 := by
    have := iL.cnt
    simp [regsOf]
    omega
  refine JSs_one <| JS_ret <| J_and <| J_cmp (op_eqD hu64) (by rfl) <| J_cm0 CS.held cl.mach.cls hr <| J_name 20 rfl ⟨A.m, A.md, 0, _, rfl, rfl, rfl, [0, 1, 2, 3, 4, 5, 6, 7, 8, 9], by decide, by simp [mob], rfl, A, S, rfl, regs_keys iL, hz, fun l1 p1 s1 => ⟨by simp [mob], rfl, ?_⟩⟩
  refine J_at ⟨SL, B⟩ rfl ?_
  refine J_callTy call_tuple_of T.tuple <| JA_cons <| J_cat <| J_lst <| JA_cons <| J_tup <| JA_cons <| J_int <| JA_cons <| J_int <| JA_nil ⟨[.int 0, .int 1], rfl, rfl, JA_nil ⟨rfl, fun z1 => ?_⟩⟩
  refine J_at ⟨SL, B ++ [(z1, .lst [.tuple [.int 0, .int 1]])]⟩ rfl ?_
  refine J_callB cr_sortedPI T.sorted <| JA_cons <| J_lcP rfl scLaw.nd (blkOk_by (own := [("at", 5), ("spot", 16)]) (N := nLaw) (sc := defScope sLaw) (by decide +kernel)) ?_
  refine JI_enumO (J_callB (call_sortedDI rfl) T.sorted <| JA_cons <| J_name 10 rfl <| JA_nil <| RC_sortedDI (ks := L.ents.map (·.spot)) 11 rfl (hkD_keys L) (by rw [List.length_map]; have := iL.cnt; omega) fun ys z2 hpm hps => ?_) T.enumerate
  obtain ⟨r1, r2⟩ := regL_ok iL hpm hps
  have el : l1 = ((0 : Int), (1 : Int)) :: regL L ys := sort_uniqP (p1.trans r1.symm) s1 r2
  have hyl : ys.length ≤ 9 := by
    have := hpm.length_eq
    rw [List.length_map] at this
    have := iL.cnt
    omega
  refine ⟨z2, 13, iD ys, rfl, by rw [iD_dat]; rfl, by simp [iD]; omega, fun _ => true, gSpot L, ?_, fun d hd Y hY => ?_, fun z3 => ?_⟩
  · rw [iD_dat]
    exact List.mem_append_right _ (List.mem_singleton.mpr rfl)
  · obtain ⟨s2, H1, C1, cl1, fp, rfl⟩ := hY
    obtain ⟨i, y, hy, rfl⟩ : ∃ (i : Nat) (y : Int), ys[i]? = some y ∧ d = .tuple [.int (i : Nat), .int y] := by
      obtain ⟨i, hi⟩ := List.getElem?_of_mem hd
      unfold enumD iD at hi
      rw [List.getElem?_mapIdx, List.getElem?_map] at hi
      cases hx : ys[i]? with
      | none => rw [hx] at hi; cases hi
      | some y => rw [hx] at hi; cases hi; exact ⟨i, y, hx, rfl⟩
    refine JG_tup rfl <| JGs_cons <| JG_name 5 scLaw.nd <| JGs_cons <| JG_name 16 scLaw.nd <| JGs_nil fun Y2 hY2 => JTs_nil ⟨rfl, rfl, fun _ Y3 hY3 => ?_⟩
    obtain ⟨s3, H3, C3, cl3, fp3, rfl⟩ := hY3
    refine J_tup <| JA_cons <| J_name 16 rfl <| JA_cons <| J_ix ix_seq <| J_ix ix_seq <| J_cm0 CS.held cl.mach.cls hr <| J_name 20 rfl ⟨A.m, A.md, 0, _, rfl, rfl, rfl, [0, 1, 2, 3, 4, 5, 6, 7, 8, 9], by decide, by simp [mob, B, wipeD], rfl, A, S, rfl, regs_keys iL, hz, fun l2 p2 s2' => ⟨by simp [mob], rfl, ?_⟩⟩
    have el2 : l2 = ((0 : Int), (1 : Int)) :: regL L ys := sort_uniqP (p2.trans r1.symm) s2' r2
    have hat : atI ((pairI2 l2).map Rv.dat) (1 + (i : Nat)) = some (Rv.dat (.tuple [.int y, .int (regOf (regsOf L) y)])) := by
      have e : (1 : Int) + ((i : Nat) : Int) = ((i + 1 : Nat) : Int) := by omega
      rw [e]
      refine atI_of ?_
      rw [el2]
      unfold pairI2 regL
      simp [hy]
    refine J_bin op_add <| J_int <| J_name 5 rfl <| RJ_add <| RJ_ix .dt hat <| J_int <| RJ_ix (xs := [.int y, .int (regOf (regsOf L) y)]) .dt rfl <| JA_nil ⟨[.int y, .int (regOf (regsOf L) y)], rfl, rfl, rfl, rfl⟩
  · have ep : pick (fun _ => true) (gSpot L) (enumD (iD ys)) = (prI (regL L ys)).map Rv.dat := by
      rw [pick_all]
      unfold enumD prI regL iD
      apply List.ext_getElem?
      intro i
      simp only [List.getElem?_map, List.getElem?_mapIdx]
      cases ys[i]? with
      | none => rfl
      | some y => rfl
    rw [ep]
    refine JA_nil <| RC_sortedPI (.ol 14 rfl) (List.pairwise_cons.mp r2).2 fun z4 => ?_
    refine ⟨z1, z4, 12, 15, [.tuple [.int 0, .int 1]], (prI (regL L ys)).map .dat, rfl, rfl, rfl, rfl, ?_, fun z5 => JA_nil <| RC_tupleL (ds := pairI2 l1) ?_ ?_⟩
    · simp [prI, regL]
      omega
    · rw [el]
      exact .ol 16 rfl
    · obtain ⟨sh, eq⟩ := shp_pairs l1
      refine RJ_eqD sh sh ⟨true, congrArg Rv.bool eq, fun _ => ?_, nofun⟩
      refine J_one <| J_cmp op_eq (by rfl) <| J_callB call_len T.len <| JA_cons <| jf cl.mach 20 0 rfl rfl rfl <| JA_nil <| RC_len (.ol 9 rfl) <| J_int <| RJ_eqI ⟨[], List.nodup_nil, fin_of q ?_⟩
      simp [iR, S, toMS, hmo]
end
end K71
end

section
open PySem PySem.Spec PyProof.Rows L2 DL SH
/-! K71U: the law's machine. -/
namespace K71
theorem ch_ops {a : Nat} {xs : List (Str × Int)} {L0 L : LS} {h : List (Op × LS)} (ha : a ≤ 4) (h0 : LInv a L0) (c : Ch xs L0 h L) : ∀ d ∈ rowsD h ++ [giveD], InsOk (knownR xs) d := by
  intro d hd
  rcases List.mem_append.mp hd with hd | hd
  · obtain ⟨p, hp, rfl⟩ := List.mem_map.mp hd
    obtain ⟨k, hk⟩ := List.getElem?_of_mem hp
    obtain ⟨st, i1, _⟩ := (c.at_ ha h0).2 k p.1 p.2 hk
    exact ins_of i1 st
  · rw [List.mem_singleton.mp hd]
    exact .give 0 (by omega) (by omega)
section
variable {P : Program} {w : World} {K : PySem.W.Frag} {mg : Str → Option Value} {base : Heap} {f : Addr} {fd : FuncData} {c : CA}
theorem law_mach {cdv : Value} {A0 : Around} {outer : List Env} {s0 : Shared} {H : Hp} {Φ : Rv → Obs → Prop} (CS : Cs P w K mg base c) (T : Tx mg) (hr : GR 9 (XL P w K mg base f cdv A0 outer s0 H).A) (q : Φ (.bool true) [])
    {a : Nat} {xs : List (Str × Int)} {hi : List (Op × LS)} {L : LS} (ha : a ≤ 4) (ch : Ch xs (L00 a) hi L) (hlen : hi.length = 40)
    (hn : ∀ p ∈ xs, nodeOk (nodeD p.1 p.2)) (hx : ∀ p ∈ xs, PyData.strOk p.1 = true) (nd : (xs.map (·.1)).Nodup) (l1 : 1 ≤ xs.length) (l2 : xs.length ≤ 24) (hv : valR (knownR xs) (Sum.inr "na" : Key) = some (.dat (nodeD "na" a)))
    (pa ro du fr he fi od : Addr) (X0 X1 X2 X3 : MO) (v0 v1 v2 v3 v5 v6 v9 v11 v12 v13 v14 v15 v16 v17 v18 v19 v22 : Option Rv) :
    JSs (XL P w K mg base f cdv A0 outer s0 H) ((defBody sLaw).drop 7) ⟨[v0, v1, v2, v3, some (.list (ndL xs)), v5, v6, some (.adr ro), some (.adr du), v9, some (.adr he), v11, v12, v13, v14, v15, v16, v17, v18, v19, none, none, v22],
      [(pa, X0), (ro, .lst ((rowsD hi).map .dat)), (du, .lst ((duesD (free0.take a) hi).map .dat)), (fr, X1), (he, .dk (datK (hkD L))), (fi, X2), (od, X3)]⟩ (outE Φ) := by
  have iL := (ch.at_ ha (linv0 ha)).1
  refine JSs_cons <| JS_asg 20 scLaw.nd <| J_cn CS.init hr <| JA_cons <| J_cn CS.code hr <| JA_cons <| J_name 4 rfl <| JA_cons <| J_frz <| J_cat <| J_name 7 rfl <| J_lst <| JA_cons <| J_tup <| JA_cons <| J_str <| JA_cons <| J_int <| JA_nil ⟨[.str "give", .int 0], rfl, rfl, JA_nil ⟨rfl, fun z1 => ?_⟩⟩
  refine ⟨ro, z1, 1, 7, (rowsD hi).map .dat, [.dat giveD], rfl, rfl, rfl, rfl, by simp [rowsD, hlen], fun z2 => ⟨z2, 8, rowsD hi ++ [giveD], rfl, ?_, ?_⟩⟩
  · rw [List.map_append]
    rfl
  refine JA_cons <| J_int <| JA_nil fun cc cd => ⟨[8], by decide, by simp, rfl, cc, cd, xs, rowsD hi ++ [giveD], rfl, hn, nd, l1, l2, ch_ops ha (linv0 ha) ch, by simp, by simp [rowsD, hlen], fun kn => ⟨by simp, rfl, rfl, ?_⟩⟩
  refine JA_cons <| J_int <| JA_cons <| J_lstD <| JA_cons <| J_tup <| JA_cons <| J_str <| JA_cons <| J_tup <| JA_nil ⟨[], rfl, rfl, JA_nil ⟨[.str "na", .tuple []], rfl, rfl, JA_nil ⟨[.tuple [.str "na", .tuple []]], rfl, rfl, JA_nil fun m md => ?_⟩⟩⟩
  refine ⟨[10, 8, 9], by decide, by simp [SH.putAt], rfl, m, md, cc, cd, kn, xs, rowsD hi ++ [giveD], a, rfl, hv, by omega, ?_⟩
  intro A mo e1 e2 e3 e4 e5 hmo
  subst e1 e2 e3 e4 e5
  refine ⟨by simp [mob], rfl, rfl, ?_⟩
  refine JSs_pick [10, 8, 9, 11, 12, 13, 14, 15, 16, 17, 2, 4] (by decide) ?_
  refine JSs_at ⟨[v0, v1, v2, v3, some (.list (ndL xs)), v5, v6, some (.adr ro), some (.adr du), v9, some (.adr he), v11, v12, v13, v14, v15, v16, v17, v18, v19, some (.adr A.m), none, v22], mob c A (toMS xs (rowsD hi ++ [giveD]) (free0.take a) (L00 a) 0 mo) ++ [(du, .lst ((duesD (free0.take a) hi).map .dat)), (he, .dk (datK (hkD L)))]⟩ rfl ?_
  exact law_loop CS T hr ha hx ch hlen A du he v0 v1 v2 v3 _ v5 v6 _ v9 v11 v12 v13 v14 v15 v16 v17 v18 v19 v22 mo hmo fun v21 mo' hmo' => law_fin CS T hr q iL A he du _ v0 v1 v2 v3 _ v5 v6 _ _ v9 v11 v12 v13 v14 v15 v16 v17 v18 v19 v21 v22 mo' hmo'
end
end K71
end

section
open PySem PySem.Spec PyProof.Rows L2 DL SH
/-! K71V: the law's laps: small laws. -/
namespace K71
theorem len_sub : ∀ {l m : List Int}, l.Nodup → (∀ x ∈ l, x ∈ m) → l.length ≤ m.length
  | [], _, _, _ => Nat.zero_le _
  | x :: l, m, nd, h => by
    rw [List.nodup_cons] at nd
    have hm := h x List.mem_cons_self
    have := len_sub (l := l) (m := m.erase x) nd.2 fun y hy => by
      have : y ≠ x := fun e => nd.1 (e ▸ hy)
      exact (List.mem_erase_of_ne this).mpr (h y (List.mem_cons_of_mem _ hy))
    rw [List.length_erase_of_mem hm] at this
    have := List.length_pos_of_mem hm
    simp
    omega
theorem cut_take (l : List Int) (n : Nat) : cutR (iR l) none (some (n : Int)) = iR (l.take n) := by
  unfold cutR iR
  have e : HT.sIx (l.map Rv.int).length (l.map Rv.int).length (some (n : Int)) = min n (l.map Rv.int).length := HT.sIx_nat _ _ n
  rw [e]
  have e2 : HT.sIx (l.map Rv.int).length 0 none = 0 := rfl
  rw [e2, List.drop_zero, List.map_take, Nat.sub_zero, List.length_map]
  by_cases h : n ≤ l.length
  · rw [Nat.min_eq_left h]
  · rw [Nat.min_eq_right (by omega), List.take_of_length_le (by simp), List.take_of_length_le (by simp; omega)]
theorem cut_drop (l : List Int) (n : Nat) : cutR (iR l) (some (n : Int)) none = iR (l.drop n) := by
  unfold cutR iR
  have e : HT.sIx (l.map Rv.int).length 0 (some (n : Int)) = min n (l.map Rv.int).length := HT.sIx_nat _ _ n
  have e2 : HT.sIx (l.map Rv.int).length (l.map Rv.int).length none = (l.map Rv.int).length := rfl
  rw [e, e2, List.take_of_length_le (by rw [List.length_drop]; exact Nat.le_refl _), List.map_drop, List.length_map]
  by_cases h : n ≤ l.length
  · rw [Nat.min_eq_left h]
  · rw [Nat.min_eq_right (by omega), List.drop_of_length_le (by simp), List.drop_of_length_le (by simp; omega)]
def heldT (e : En) : PyData := .tuple [.str e.name, .tuple (iD e.cells)]
theorem hkD_at {L : LS} (nd : (L.ents.map (·.spot)).Nodup) {e : En} (he : e ∈ L.ents) : valR (datK (hkD L)) (Sum.inl e.spot : Key) = some (.dat (heldT e)) := by
  unfold datK hkD
  generalize hl : L.ents = es at nd he ⊢
  clear hl
  induction es with
  | nil => cases he
  | cons x es ih =>
    rw [List.map_cons, List.nodup_cons] at nd
    rw [List.map_cons, List.map_cons]
    unfold valR
    rw [List.find?_cons]
    rcases List.mem_cons.mp he with rfl | he
    · simp [heldT]
    · have hne : x.spot ≠ e.spot := fun z => nd.1 (z ▸ List.mem_map.mpr ⟨e, he, rfl⟩)
      have : decide ((Sum.inl x.spot : Key) = Sum.inl e.spot) = false := by simpa using hne
      simp only [this]
      exact ih nd.2 he
theorem hkD_no {L : LS} {r : Int} (h : r ∉ L.ents.map (·.spot)) : valR (datK (hkD L)) (Sum.inl r : Key) = none := by
  cases e : valR (datK (hkD L)) (Sum.inl r : Key) with
  | none => rfl
  | some v =>
    have hm := valR_mem e
    have : (Sum.inl r : Key) ∈ (datK (hkD L)).map (·.1) := List.mem_map.mpr ⟨_, hm, rfl⟩
    rw [hkD_keys] at this
    obtain ⟨y, hy, e2⟩ := List.mem_map.mp this
    exact absurd (Sum.inl.inj e2 ▸ hy) h
theorem hkD_some {L : LS} {r : Int} (h : r ∈ L.ents.map (·.spot)) : valR (datK (hkD L)) (Sum.inl r : Key) ≠ none := by
  intro e
  unfold valR at e
  have e := Option.map_eq_none_iff.mp e
  rw [List.find?_eq_none] at e
  obtain ⟨x, hx, rfl⟩ := List.mem_map.mp h
  have := e ((Sum.inl x.spot : Key), .dat (heldT x)) (by
    unfold datK hkD
    rw [List.map_map]
    exact List.mem_map.mpr ⟨x, hx, rfl⟩)
  simp at this
theorem isSome_hk {L : LS} {r : Int} : (valR (datK (hkD L)) (Sum.inl r : Key)).isSome = decide (r ∈ L.ents.map (·.spot)) := by
  by_cases h : r ∈ L.ents.map (·.spot)
  · rw [decide_eq_true h]
    cases e : valR (datK (hkD L)) (Sum.inl r : Key) with
    | none => exact absurd e (hkD_some h)
    | some v => rfl
  · rw [decide_eq_false h, hkD_no h]
    rfl
theorem put_held {L : LS} {r : Int} {x : Str} {cs : List Int} {fr : List Int} {md nm : Int} (h : r ∉ L.ents.map (·.spot)) : putRk (datK (hkD L)) (Sum.inl r : Key) (.tuple [.str x, .tuple (iD cs)]) = datK (hkD ⟨fr, L.ents ++ [⟨r, nm, x, cs⟩], md, L.frame⟩) := by
  rw [putRk_fresh]
  · unfold datK hkD
    rw [List.map_append, List.map_append]
    rfl
  · rw [hkD_keys]
    intro hm
    obtain ⟨y, hy, e2⟩ := List.mem_map.mp hm
    exact h (Sum.inl.inj e2 ▸ hy)
/-- the first place that is not held -/
def notHeld (L : LS) : Rv → Bool
  | .dat (.int y) => !decide (y ∈ L.ents.map (·.spot))
  | _ => false
theorem first_free {L : LS} (h : L.ents.length < 9) : ∃ (r : Int) (rest : List Rv), pick (notHeld L) (fun d => d) (rangeD 1 9) = .int r :: rest ∧ r ∉ L.ents.map (·.spot) ∧ 1 ≤ r ∧ r ≤ 9 := by
  cases e : pick (notHeld L) (fun d => d) (rangeD 1 9) with
  | nil =>
    exfalso
    unfold pick at e
    have e := List.map_eq_nil_iff.mp e
    rw [List.filter_eq_nil_iff] at e
    have : ([1, 2, 3, 4, 5, 6, 7, 8, 9] : List Int).length ≤ (L.ents.map (·.spot)).length := len_sub (by decide) fun y hy => by
      have hm : Rv.int y ∈ rangeD 1 9 := by
        unfold rangeD
        simp only [List.mem_cons, List.not_mem_nil, or_false] at hy
        refine List.mem_map.mpr ⟨(y - 1).toNat, List.mem_range.mpr (by omega), ?_⟩
        have : (1 : Int) + ((y - 1).toNat : Nat) = y := by omega
        rw [this]
      have := e _ hm
      simpa [notHeld] using this
    simp at this
    omega
  | cons d rest =>
    have hm : d ∈ pick (notHeld L) (fun d => d) (rangeD 1 9) := by rw [e]; exact List.mem_cons_self
    unfold pick at hm
    rw [List.map_id'] at hm
    obtain ⟨h1, h2⟩ := List.mem_filter.mp hm
    unfold rangeD at h1
    obtain ⟨i, hi, rfl⟩ := List.mem_map.mp h1
    rw [List.mem_range] at hi
    exact ⟨1 + (i : Nat), rest, rfl, by simpa [notHeld] using h2, by omega, by omega⟩
/-- places other than r -/
def other (r : Int) : Rv → Bool
  | .dat (.int y) => !decide (y = r)
  | _ => false
theorem pick_order (L : LS) (r : Int) : pick (other r) (fun d => d) (iR (L.ents.map (·.spot))) = iR ((L.ents.filter fun q => decide (q.spot ≠ r)).map (·.spot)) := by
  unfold pick iR
  rw [List.map_id']
  induction L.ents with
  | nil => rfl
  | cons x es ih =>
    simp only [List.map_cons, List.filter_cons, other]
    by_cases h : x.spot = r
    · simp only [h, decide_true, Bool.not_true, Bool.false_eq_true, if_false, ne_eq, not_true_eq_false, decide_false]
      exact ih
    · simp only [h, decide_false, Bool.not_false, if_true, ne_eq, not_false_eq_true, decide_true, List.map_cons]
      rw [ih]
def gPair (L : LS) : Rv → Rv
  | .dat (.int y) => match valR (datK (hkD L)) (Sum.inl y : Key) with
    | some (.dat d) => .dat (.tuple [.int y, d])
    | _ => .none
  | r => r
theorem pick_held {L : LS} (nd : (L.ents.map (·.spot)).Nodup) (r : Int) (fr : List Int) (md : Int) : pick (other r) (gPair L) (keysR (datK (hkD L))) = (pairD (hkD ⟨fr, L.ents.filter (fun q => decide (q.spot ≠ r)), md, L.frame⟩)).map .dat := by
  have key : ∀ es : List En, (∀ e ∈ es, e ∈ L.ents) → pick (other r) (gPair L) (es.map fun e => Rv.int e.spot) = ((es.filter fun q => decide (q.spot ≠ r)).map fun e => Rv.dat (.tuple [.int e.spot, heldT e])) := by
    intro es
    induction es with
    | nil => intro _; rfl
    | cons x es ih =>
      intro h
      have ih := ih fun e he => h e (List.mem_cons_of_mem _ he)
      unfold pick at ih ⊢
      simp only [List.map_cons, List.filter_cons, other]
      by_cases hx : x.spot = r
      · simp only [hx, decide_true, Bool.not_true, Bool.false_eq_true, if_false, ne_eq, not_true_eq_false, decide_false]
        exact ih
      · simp only [hx, decide_false, Bool.not_false, if_true, ne_eq, not_false_eq_true, decide_true, List.map_cons]
        rw [ih]
        congr 1
        have := hkD_at nd (h x List.mem_cons_self)
        show gPair L (Rv.int x.spot) = _
        simp only [gPair, this]
  have e1 : keysR (datK (hkD L)) = L.ents.map fun e => Rv.int e.spot := by
    unfold keysR datK hkD
    rw [List.map_map, List.map_map]
    rfl
  rw [e1, key L.ents fun e he => he]
  unfold SH.pairD hkD
  rw [List.map_map, List.map_map]
  rfl
theorem hkD_nodup {L : LS} (nd : (L.ents.map (·.spot)).Nodup) (r : Int) (fr : List Int) (md : Int) : ((hkD ⟨fr, L.ents.filter (fun q => decide (q.spot ≠ r)), md, L.frame⟩).map (·.1)).Nodup := by
  have e : (hkD ⟨fr, L.ents.filter (fun q => decide (q.spot ≠ r)), md, L.frame⟩).map (·.1) = ((L.ents.filter (fun q => decide (q.spot ≠ r))).map (·.spot)).map (Sum.inl : Int → Key) := by
    unfold hkD
    rw [List.map_map, List.map_map]
    rfl
  rw [e]
  have h1 : ((L.ents.filter (fun q => decide (q.spot ≠ r))).map (·.spot)).Nodup := nd.sublist (List.Sublist.map _ List.filter_sublist)
  exact List.Pairwise.map _ (fun a b hab h => hab (Sum.inl.inj h)) h1
def gHeld (L : LS) : Rv → Rv
  | .dat (.int y) => (valR (datK (hkD L)) (Sum.inl y : Key)).getD .none
  | r => r
theorem pick_due {L : LS} (nd : (L.ents.map (·.spot)).Nodup) : pick (fun _ => true) (gHeld L) (iR (L.ents.map (·.spot))) = (L.ents.map heldT).map .dat := by
  rw [pick_all]
  unfold iR
  rw [List.map_map, List.map_map, List.map_map]
  apply List.map_congr_left
  intro e he
  show gHeld L (Rv.int e.spot) = _
  simp only [gHeld, hkD_at nd he]
  rfl
end K71
end

section
open PySem PySem.Spec PyProof.Rows L2 DL SH
/-! K71W: the law's laps. -/
namespace K71
/-- what stays through the laps -/
structure Fx where
  (pa ro du fi : Addr) (sc szs : List PyData) (xs : List (Str × Int)) (a : Nat)
/-- what changes -/
structure Ju where
  (v3 v5 v6 v14 v15 v16 v17 v18 v19 v22 : Option Rv)
def lsl (F : Fx) (J : Ju) (fr he od : Addr) (fm : Option (List Int)) : List (Option Rv) :=
  [some (.list F.sc), some (.adr F.pa), some (.list F.szs), J.v3, some (.list (ndL F.xs)), J.v5, J.v6, some (.adr F.ro), some (.adr F.du), some (.adr fr), some (.adr he), some (.dat (frD fm)), some (.adr F.fi), some (.adr od), J.v14, J.v15, J.v16, J.v17, J.v18, J.v19, none, none, J.v22]
def lob (F : Fx) (fr he od : Addr) (ns : List Int) (n g : Int) (rows dues : List PyData) (L : LS) : Obs :=
  [(F.pa, penO ns n g), (F.ro, .lst (rows.map .dat)), (F.du, .lst (dues.map .dat)), (fr, .lst (iR L.free)), (he, .dk (datK (hkD L))), (F.fi, .lst [.tuple [.str "na", .tuple (iD (free0.take F.a))]]), (od, .lst (iR (L.ents.map (·.spot))))]
abbrev lapB : List Stmt := match (defBody sLaw).getD 6 (.Pass ⟨0, 0, 0, 0⟩) with
  | .For _ _ b _ _ => b
  | _ => []
section
variable {P : Program} {w : World} {K : PySem.W.Frag} {mg : Str → Option Value} {base : Heap} {f : Addr} {fd : FuncData} {c : CA}
theorem lap_due {cdv : Value} {A0 : Around} {outer : List Env} {s0 : Shared} {H : Hp} {E : DE} (T : Tx mg) (hr : GR 9 (XL P w K mg base f cdv A0 outer s0 H).A)
    (F : Fx) (jj : Ju) (fr he od : Addr) (ns : List Int) (n g : Int) (rows dues : List PyData) (L : LS) (iL : LInv F.a L) (hd : dues.length < 100)
    (q : E.nx ⟨lsl F jj fr he od L.frame, lob F fr he od ns n g rows (dues ++ [dueD (free0.take F.a) L]) L⟩) :
    JSs (XL P w K mg base f cdv A0 outer s0 H) (lapB.drop 2) ⟨lsl F jj fr he od L.frame, lob F fr he od ns n g rows dues L⟩ E := by
  have hu := hu_of hr.room
  refine JSs_cons <| JS_expr <| J_append <| J_name 8 rfl ⟨F.du, _, 2, rfl, rfl, ?_⟩
  refine J_callTy call_tuple_of T.tuple <| JA_cons <| J_cat <| J_cat <| J_name 12 rfl <| J_lcP rfl scLaw.nd (blkOk_by (own := [("spot", 16)]) (N := nLaw) (sc := defScope sLaw) (by decide +kernel)) <| JI_lstO <| J_name 13 rfl ⟨od, 6, _, rfl, rfl, fun _ => true, gHeld L, List.mem_of_getElem? (i := 6) rfl, fun d hd Y hY => ?_, fun z1 => ?_⟩
  · obtain ⟨s2, H1, C1, cl1, fp, rfl⟩ := hY
    obtain ⟨y, hy, rfl⟩ := List.mem_map.mp hd
    obtain ⟨e, he', rfl⟩ := List.mem_map.mp hy
    refine JG_name 16 scLaw.nd fun Y2 hY2 => JTs_nil ⟨rfl, rfl, fun _ Y3 hY3 => ?_⟩
    obtain ⟨s3, H3, C3, cl3, fp3, rfl⟩ := hY3
    have hv := hkD_at iL.spots he'
    refine J_dget hu <| J_name 10 rfl <| J_name 16 rfl ⟨he, datK (hkD L), .inl e.spot, _, 4, rfl, rfl, rfl, hv, ?_, rfl⟩
    show _ = gHeld L (Rv.int e.spot)
    simp only [gHeld, hv]
    rfl
  · rw [pick_due iL.spots]
    refine ⟨F.fi, z1, 5, 7, _, _, rfl, rfl, rfl, rfl, ?_, fun z2 => ?_⟩
    · have := iL.cnt
      simp
      omega
    refine SH.J.imp (Φ := fun r δ' => ∃ z3, r = .adr z3 ∧ δ' = ⟨lsl F jj fr he od L.frame, lob F fr he od ns n g rows dues L ++ [(z1, .lst ((L.ents.map heldT).map .dat)), (z2, .lst ([.tuple [.str "na", .tuple (iD (free0.take F.a))]] ++ (L.ents.map heldT).map .dat)), (z3, .lst ((frameD L.frame).map .dat))]⟩) (J_ifExp <| JT_cmp op_notN (by rfl) <| J_name 11 rfl <| J_none <| RJ_notN ⟨_, rfl, fun hb => ?_, fun hb => ?_⟩) ?_
    · cases hf : L.frame with
      | none => rw [hf] at hb; cases hb
      | some cs =>
        refine J_lst <| JA_cons <| J_tup <| JA_cons <| J_str <| JA_cons <| J_name 11 rfl <| JA_nil ⟨[.str "frame", .tuple (iD cs)], rfl, rfl, JA_nil ⟨rfl, fun z3 => ⟨z3, rfl, rfl⟩⟩⟩
    · cases hf : L.frame with
      | some cs => rw [hf] at hb; cases hb
      | none => exact J_lst <| JA_nil ⟨rfl, fun z3 => ⟨z3, rfl, rfl⟩⟩
    · rintro _ _ ⟨z3, rfl, rfl⟩
      refine ⟨z2, z3, 8, 9, _, _, rfl, rfl, rfl, rfl, ?_, fun z4 => JA_nil <| RC_tupleL (ds := seenD (nsOf (free0.take F.a) L) L.frame) ?_ ⟨2, dues.map .dat, rfl, by simp; omega, ?_⟩⟩
      · have := iL.cnt
        have : (frameD L.frame).length ≤ 1 := by cases L.frame <;> simp [frameD]
        simp
        omega
      · have e : (seenD (nsOf (free0.take F.a) L) L.frame).map Rv.dat = [.tuple [.str "na", .tuple (iD (free0.take F.a))]] ++ (L.ents.map heldT).map .dat ++ (frameD L.frame).map .dat := by
          unfold seenD nsOf
          rw [List.map_append, List.map_cons, List.map_cons, List.map_map, List.map_map, List.map_map]
          rfl
        rw [e]
        exact .ol 10 rfl
      · refine JSs_pick [0, 1, 2, 3, 4, 5, 6] (by decide) <| JSs_nil ?_
        have e : lob F fr he od ns n g rows (dues ++ [dueD (free0.take F.a) L]) L = [(F.pa, penO ns n g), (F.ro, .lst (rows.map .dat)), (F.du, .lst (dues.map .dat ++ [.dat (dueD (free0.take F.a) L)])), (fr, .lst (iR L.free)), (he, .dk (datK (hkD L))), (F.fi, .lst [.tuple [.str "na", .tuple (iD (free0.take F.a))]]), (od, .lst (iR (L.ents.map (·.spot))))] := by
          unfold lob
          rw [List.map_append]
          rfl
        rw [e] at q
        exact q
/-- behind a lap's deed -/
def lapM (F : Fx) (kk : Int) (rows dues : List PyData) (L : LS) (δ : S) : Prop := ∃ (jj : Ju) (fr he od : Addr) (ns : List Int) (n g : Int) (o : Op) (L' : LS), PenK (kk + 2) ns n g ∧ LStp F.xs L o L' ∧ δ = ⟨lsl F jj fr he od L'.frame, lob F fr he od ns n g (rows ++ [opD o]) dues L'⟩
theorem rows_snoc (rows : List PyData) (d : PyData) : (rows ++ [d]).map Rv.dat = rows.map .dat ++ [.dat d] := by rw [List.map_append]; rfl
theorem lap_C {cdv : Value} {A0 : Around} {outer : List Env} {s0 : Shared} {H : Hp} {E : DE} (CS : Cs P w K mg base c) (T : Tx mg) (hr : GR 9 (XL P w K mg base f cdv A0 outer s0 H).A)
    (F : Fx) (jj : Ju) (fr he od : Addr) (ns : List Int) (n g kk : Int) (rows dues : List PyData) (L : LS) (iL : LInv F.a L) (ha : F.a ≤ 4) (hk : kk ≤ 90000) (hP : PenK kk ns n g) (hrw : rows.length < 100) (hf : L.frame = none) :
    JSs (XL P w K mg base f cdv A0 outer s0 H) (match (match lapB.getD 1 (.Pass ⟨0, 0, 0, 0⟩) with
      | .If _ _ [.If _ _ [.If _ C _ _] _] _ => C
      | _ => [.Pass ⟨0, 0, 0, 0⟩]) with
      | C => C) ⟨lsl F jj fr he od L.frame, lob F fr he od ns n g rows dues L⟩ { E with nx := lapM F kk rows dues L } := by
  have hfl := iL.free_ge ha
  show JSs _ [_, _, _] _ _
  refine JSs_cons <| JS_asg 6 scLaw.nd <| J_cH CS.draw hr <| JA_cons <| J_name 1 rfl <| JA_cons <| J_int <| JA_nil ⟨[0], by decide, by simp [lob], rfl, F.pa, kk, 4, ns, n, g, rfl, hP, by decide, by decide, by omega, fun x ns' n' g' x0 x1 hP' => ⟨by simp, rfl, ?_⟩⟩
  obtain ⟨m, rfl⟩ := Int.eq_ofNat_of_zero_le x0
  refine JSs_at ⟨lsl F { jj with v6 := some (.int (m : Nat)) } fr he od L.frame, lob F fr he od ns' n' g' rows dues L⟩ rfl ?_
  refine JSs_cons <| JS_par 11 9 rfl scLaw.nd <| JA_cons <| J_callTy call_tuple_of T.tuple <| JA_cons <| J_sliceL <| J_name 9 rfl <| JP_none <| JP_some <| J_name 6 rfl ⟨(m : Nat), rfl, iR L.free, .ol 3 rfl, fun z1 => JA_nil <| RC_tupleL (ds := iD (L.free.take m)) ?_ <| JA_cons <| J_sliceL <| J_name 9 rfl <| JP_some <| J_name 6 rfl ⟨(m : Nat), rfl, JP_none ⟨iR L.free, .ol 3 rfl, fun z2 => JA_nil ⟨_, _, rfl, ?_⟩⟩⟩⟩
  · rw [iD_dat, ← cut_take]
    exact .ol 7 rfl
  rw [cut_drop]
  refine JSs_cons <| JS_expr <| J_append <| J_name 7 rfl ⟨F.ro, _, 1, rfl, rfl, J_tup <| JA_cons <| J_str <| JA_cons <| J_name 6 rfl <| JA_nil ⟨[.str "enter", .int (m : Nat)], rfl, rfl, 1, rows.map .dat, rfl, by simp; omega, ?_⟩⟩
  refine JSs_pick [0, 1, 2, 8, 4, 5, 6] (by decide) <| JSs_nil ⟨{ jj with v6 := some (.int (m : Nat)) }, z2, he, od, ns', n', g', .enter m, _, ⟨hP'.1, hP'.2.1, by have := hP'.2.2.1; omega, hP'.2.2.2⟩, .enter m hf (by omega), ?_⟩
  unfold lob
  rw [rows_snoc]
  rfl
end
end K71
end

section
open PySem PySem.Spec PyProof.Rows L2 DL SH
/-! K71X: the law's laps: the other deeds. -/
namespace K71
abbrev stA : List Stmt := match lapB.getD 1 (.Pass ⟨0, 0, 0, 0⟩) with
  | .If _ A _ _ => A
  | _ => []
abbrev stB : List Stmt := match lapB.getD 1 (.Pass ⟨0, 0, 0, 0⟩) with
  | .If _ _ [.If _ B _ _] _ => B
  | _ => []
abbrev stD : List Stmt := match lapB.getD 1 (.Pass ⟨0, 0, 0, 0⟩) with
  | .If _ _ [.If _ _ [.If _ _ D _] _] _ => D
  | _ => []
section
variable {P : Program} {w : World} {K : PySem.W.Frag} {mg : Str → Option Value} {base : Heap} {f : Addr} {fd : FuncData} {c : CA}
theorem lap_D {cdv : Value} {A0 : Around} {outer : List Env} {s0 : Shared} {H : Hp} {E : DE} (CS : Cs P w K mg base c) (T : Tx mg) (hr : GR 9 (XL P w K mg base f cdv A0 outer s0 H).A)
    (F : Fx) (jj : Ju) (fr he od : Addr) (ns : List Int) (n g kk : Int) (rows dues : List PyData) (L : LS) (iL : LInv F.a L) (ha : F.a ≤ 4) (hP : PenK kk ns n g) (hrw : rows.length < 100) (cs : List Int) (hf : L.frame = some cs) :
    JSs (XL P w K mg base f cdv A0 outer s0 H) stD ⟨lsl F jj fr he od (some cs), lob F fr he od ns n g rows dues L⟩ { E with nx := lapM F kk rows dues L } := by
  have hfl := iL.free_ge ha
  have hsum := iL.sum
  have hfr := iL.fr
  rw [hf] at hfr
  simp only [frL] at hfr
  have hlen : L.free.length ≤ 200 := by omega
  show JSs _ [_, _, _] _ _
  refine JSs_cons <| JS_asg 9 scLaw.nd <| J_cat <| J_callTy call_list_of T.list <| JA_cons <| J_name 11 rfl <| JA_nil <| RC_list (xs := (iD cs).map .dat) .dt fun z1 => J_name 9 rfl ⟨z1, fr, 7, 3, _, _, rfl, rfl, rfl, rfl, by simp [iR, iD]; omega, fun z2 => ?_⟩
  refine JSs_at ⟨lsl F jj z2 he od (some cs), lob F fr he od ns n g rows dues L ++ [(z1, .lst ((iD cs).map .dat)), (z2, .lst ((iD cs).map .dat ++ iR L.free))]⟩ rfl ?_
  refine JSs_cons <| JS_expr <| J_append <| J_name 7 rfl ⟨F.ro, _, 1, rfl, rfl, J_tup <| JA_cons <| J_str <| JA_cons <| J_callB call_len T.len <| JA_cons <| J_name 11 rfl <| JA_nil <| RC_len (xs := (iD cs).map .dat) .dt <| JA_nil ⟨[.str "leave", .int (((iD cs).map Rv.dat).length : Nat)], rfl, rfl, 1, rows.map .dat, rfl, by simp; omega, ?_⟩⟩
  have el : ((iD cs).map Rv.dat).length = cs.length := by simp [iD]
  rw [el]
  refine JSs_cons <| JS_asg 11 scLaw.nd <| J_none ?_
  refine JSs_pick [0, 1, 2, 8, 4, 5, 6] (by decide) <| JSs_nil ⟨jj, z2, he, od, ns, n, g, .leave cs.length, _, ⟨hP.1, hP.2.1, by have := hP.2.2.1; omega, hP.2.2.2⟩, .leave cs hf, ?_⟩
  unfold lob
  rw [rows_snoc, iD_dat]
  have e : iR cs ++ iR L.free = iR (cs ++ L.free) := by simp [iR]
  rw [e]
  rfl
theorem lap_B {cdv : Value} {A0 : Around} {outer : List Env} {s0 : Shared} {H : Hp} {E : DE} (CS : Cs P w K mg base c) (T : Tx mg) (cd : Cls K c.code) (hr : GR 9 (XL P w K mg base f cdv A0 outer s0 H).A)
    (F : Fx) (jj : Ju) (fr he od : Addr) (ns : List Int) (n g kk : Int) (rows dues : List PyData) (L : LS) (iL : LInv F.a L) (ha : F.a ≤ 4) (hk : kk ≤ 90000) (hP : PenK kk ns n g) (hrw : rows.length < 100) (hne : L.ents ≠ []) :
    JSs (XL P w K mg base f cdv A0 outer s0 H) stB ⟨lsl F jj fr he od L.frame, lob F fr he od ns n g rows dues L⟩ { E with nx := lapM F kk rows dues L } := by
  have hu := hu_of hr.room
  have hfl := iL.free_ge ha
  have hsum := iL.sum
  have hcnt := iL.cnt
  show JSs _ [_, _, _, _, _] _ _
  refine JSs_cons <| JS_asg 5 scLaw.nd <| J_cH CS.pick hr <| JA_cons <| J_name 1 rfl <| JA_cons <| J_frz <| J_callB (call_sortedDI rfl) T.sorted <| JA_cons <| J_name 10 rfl <| JA_nil <| RC_sortedDI (ks := L.ents.map (·.spot)) 4 rfl (hkD_keys L) (by rw [List.length_map]; omega) fun ys z1 hpm hps => ⟨z1, 7, iD ys, rfl, by rw [iD_dat]; rfl, JA_nil ⟨[0], by decide, by simp [lob], rfl, F.pa, kk, ns, n, g, iD ys, rfl, hP, ?_, ?_, by omega, fun d ns' n' g' hd hP' => ⟨by simp, rfl, ?_⟩⟩⟩
  · have := hpm.length_eq
    rw [List.length_map] at this
    have := List.length_pos_iff.mpr hne
    simp [iD]
    omega
  · have := hpm.length_eq
    rw [List.length_map] at this
    simp [iD]
    omega
  obtain ⟨y, hy, rfl⟩ := List.mem_map.mp hd
  obtain ⟨e, he', rfl⟩ := List.mem_map.mp (hpm.mem_iff.mp hy)
  have hv := hkD_at iL.spots he'
  have hle := iL.lens e he'
  refine JSs_at ⟨lsl F { jj with v5 := some (.int e.spot) } fr he od L.frame, lob F fr he od ns' n' g' rows dues L⟩ rfl ?_
  refine JSs_cons <| JS_asg 9 scLaw.nd <| J_cat <| J_callTy call_list_of T.list <| JA_cons <| J_ix ix_seq <| J_dget hu <| J_name 10 rfl <| J_name 5 rfl ⟨he, datK (hkD L), .inl e.spot, _, 4, rfl, rfl, rfl, hv, J_int <| RJ_ix (xs := [.str e.name, .tuple (iD e.cells)]) .dt rfl <| JA_nil <| RC_list (xs := (iD e.cells).map .dat) .dt fun z2 => J_name 9 rfl ⟨z2, fr, 7, 3, _, _, rfl, rfl, rfl, rfl, by simp [iR, iD]; omega, fun z3 => ?_⟩⟩
  refine JSs_pick [0, 1, 2, 8, 4, 5, 6] (by decide) ?_
  have ef : (iD e.cells).map Rv.dat ++ iR L.free = iR (e.cells ++ L.free) := by
    rw [iD_dat]
    simp [iR]
  let OB1 : Obs := [(F.pa, penO ns' n' g'), (F.ro, .lst (rows.map .dat)), (F.du, .lst (dues.map .dat)), (z3, .lst ((iD e.cells).map .dat ++ iR L.free)), (he, .dk (datK (hkD L))), (F.fi, .lst [.tuple [.str "na", .tuple (iD (free0.take F.a))]]), (od, .lst (iR (L.ents.map (·.spot))))]
  refine JSs_at ⟨lsl F { jj with v5 := some (.int e.spot) } z3 he od L.frame, OB1⟩ rfl ?_
  let L' : LS := ⟨e.cells ++ L.free, L.ents.filter (fun q => decide (q.spot ≠ e.spot)), L.made, L.frame⟩
  refine JSs_cons <| JS_asg 10 scLaw.nd <| J_callTy (call_dictP rfl) T.dict <| JA_cons <| J_lock 4 he (kvs := datK (hkD L)) rfl fun od' vs => J_lcP rfl scLaw.nd (blkOk_by (own := [("spot", 16)]) (N := nLaw) (sc := defScope sLaw) (by decide +kernel)) <| JI_keys <| J_name 10 rfl ⟨he, 4, od', vs, datK (hkD L), rfl, rfl, by simp [datK, hkD]; omega, other e.spot, gPair L, List.mem_of_getElem? (i := 4) rfl, fun d hd Y hY => ?_, fun z4 => ⟨4, rfl, ?_⟩⟩
  · obtain ⟨s2, H1, C1, cl1, fp, rfl⟩ := hY
    unfold keysR at hd
    obtain ⟨kv, hkv, rfl⟩ := List.mem_map.mp hd
    obtain ⟨y2, hy2, ey⟩ : ∃ e2 : En, e2 ∈ L.ents ∧ kv.1 = Sum.inl e2.spot := by
      unfold datK hkD at hkv
      rw [List.map_map] at hkv
      obtain ⟨e2, h2, rfl⟩ := List.mem_map.mp hkv
      exact ⟨e2, h2, rfl⟩
    rw [ey]
    have hv2 := hkD_at iL.spots hy2
    refine JG_name 16 scLaw.nd fun Y2 hY2 => ?_
    obtain ⟨s3, H3, C3, cl3, fp3, rfl⟩ := hY2
    refine JTs_one <| JT_cmp op_ne (by rfl) <| J_name 16 rfl <| J_name 5 rfl <| RJ_neI ⟨_, rfl, rfl, rfl, fun _ Y3 hY3 => ?_⟩
    obtain ⟨s4, H4, C4, cl4, fp4, rfl⟩ := hY3
    refine J_tup <| JA_cons <| J_name 16 rfl <| JA_cons <| J_dgetL hu <| J_name 10 rfl <| J_name 16 rfl ⟨he, od', vs, datK (hkD L), .inl y2.spot, _, 4, rfl, rfl, rfl, hv2, JA_nil ⟨[.int y2.spot, heldT y2], rfl, rfl, ?_, rfl⟩⟩
    show _ = gPair L (Rv.int y2.spot)
    simp only [gPair, hv2]
  · rw [pick_held iL.spots e.spot (e.cells ++ L.free) L.made]
    refine JA_nil <| RC_dictP (.ol 7 rfl) (hkD_nodup iL.spots e.spot (e.cells ++ L.free) L.made) fun z5 => ?_
    refine JSs_pick [0, 1, 2, 3, 8, 5, 6] (by decide) ?_
    let OB2 : Obs := [(F.pa, penO ns' n' g'), (F.ro, .lst (rows.map .dat)), (F.du, .lst (dues.map .dat)), (z3, .lst ((iD e.cells).map .dat ++ iR L.free)), (z5, .dk (datK (hkD L'))), (F.fi, .lst [.tuple [.str "na", .tuple (iD (free0.take F.a))]]), (od, .lst (iR (L.ents.map (·.spot))))]
    refine JSs_at ⟨lsl F { jj with v5 := some (.int e.spot) } z3 z5 od L.frame, OB2⟩ rfl ?_
    refine JSs_cons <| JS_ofL 13 rfl scLaw.nd (blkOk_by (own := [("spot", 16)]) (N := nLaw) (sc := defScope sLaw) (by decide +kernel)) <| JL_P <| JI_lstO <| J_name 13 rfl ⟨od, 6, _, rfl, rfl, other e.spot, fun d => d, List.mem_of_getElem? (i := 6) rfl, fun d hd Y hY => ?_, fun z6 => ?_⟩
    · obtain ⟨s2, H1, C1, cl1, fp, rfl⟩ := hY
      obtain ⟨y2, hy2, rfl⟩ := List.mem_map.mp hd
      refine JG_name 16 scLaw.nd fun Y2 hY2 => ?_
      obtain ⟨s3, H3, C3, cl3, fp3, rfl⟩ := hY2
      refine JTs_one <| JT_cmp op_ne (by rfl) <| J_name 16 rfl <| J_name 5 rfl <| RJ_neI ⟨_, rfl, rfl, rfl, fun _ Y3 hY3 => ?_⟩
      obtain ⟨s4, H4, C4, cl4, fp4, rfl⟩ := hY3
      exact J_name 16 rfl ⟨rfl, rfl⟩
    · rw [pick_order]
      refine JSs_cons <| JS_expr <| J_append <| J_name 7 rfl ⟨F.ro, _, 1, rfl, rfl, J_tup <| JA_cons <| J_str <| JA_cons <| J_name 5 rfl <| JA_cons <| J_lstD <| JA_nil ⟨[], rfl, rfl, JA_nil ⟨[.str "open", .int e.spot, .list []], rfl, rfl, 1, rows.map .dat, rfl, by simp; omega, ?_⟩⟩⟩
      refine JSs_pick [0, 1, 2, 3, 4, 5, 7] (by decide) <| JSs_nil ⟨{ jj with v5 := some (.int e.spot) }, z3, z5, z6, ns', n', g', .opn e.spot, L', ⟨hP'.1, hP'.2.1, by have := hP'.2.2.1; omega, hP'.2.2.2⟩, .opn e he', ?_⟩
      unfold lob
      rw [rows_snoc, ← ef]
      rfl
end
end K71
end

section
open PySem PySem.Spec PyProof.Rows L2 DL SH
/-! K71Y: the law's laps: making; a whole lap. -/
namespace K71
theorem known_at {xs : List (Str × Int)} (nd : (xs.map (·.1)).Nodup) {p : Str × Int} (h : p ∈ xs) : valR (knownR xs) (Sum.inr p.1 : Key) = some (.dat (nodeD p.1 p.2)) := by
  induction xs with
  | nil => cases h
  | cons x xs ih =>
    rw [List.map_cons, List.nodup_cons] at nd
    unfold knownR
    rw [List.map_cons]
    unfold valR
    rw [List.find?_cons]
    rcases List.mem_cons.mp h with rfl | h
    · simp
    · have hne : x.1 ≠ p.1 := fun z => nd.1 (z ▸ List.mem_map.mpr ⟨p, h, rfl⟩)
      have : decide ((Sum.inr x.1 : Key) = Sum.inr p.1) = false := by simpa using hne
      simp only [this]
      exact ih nd.2 h
section
variable {P : Program} {w : World} {K : PySem.W.Frag} {mg : Str → Option Value} {base : Heap} {f : Addr} {fd : FuncData} {c : CA}
theorem lap_A {cdv : Value} {A0 : Around} {outer : List Env} {s0 : Shared} {H : Hp} {E : DE} (CS : Cs P w K mg base c) (T : Tx mg) (hr : GR 9 (XL P w K mg base f cdv A0 outer s0 H).A)
    (F : Fx) (jj : Ju) (fr he od : Addr) (ns : List Int) (n g kk : Int) (rows dues : List PyData) (L : LS) (iL : LInv F.a L) (ha : F.a ≤ 4) (hk : kk ≤ 90000) (hP : PenK kk ns n g) (hrw : rows.length < 100) (hc : L.ents.length < 9)
    (nd : (F.xs.map (·.1)).Nodup) (l1 : 1 ≤ F.xs.length) (l2 : F.xs.length ≤ 24) (hsz : ∀ p ∈ F.xs, 0 ≤ p.2 ∧ p.2 ≤ 4) :
    JSs (XL P w K mg base f cdv A0 outer s0 H) stA ⟨lsl F jj fr he od L.frame, lob F fr he od ns n g rows dues L⟩ { E with nx := lapM F kk rows dues L } := by
  have hu := hu_of hr.room
  have hfl := iL.free_ge ha
  show JSs _ [_, _, _, _, _, _] _ _
  obtain ⟨r, rest, hfst, hr1, hr2, hr3⟩ := first_free hc
  refine JSs_cons <| JS_asg 5 scLaw.nd <| J_ix ix_seq <| J_lcP rfl scLaw.nd (blkOk_by (own := [("spot", 16)]) (N := nLaw) (sc := defScope sLaw) (by decide +kernel)) <| JI_range2 (J_int <| J_int ⟨1, 10, rfl, rfl, by decide, by decide, by decide, by decide, notHeld L, fun d => d, trivial, fun d hd Y hY => ?_, fun z1 => ?_⟩) T.range
  · obtain ⟨s2, H1, C1, cl1, fp, rfl⟩ := hY
    unfold rangeD at hd
    obtain ⟨i, hi, rfl⟩ := List.mem_map.mp hd
    refine JG_name 16 scLaw.nd fun Y2 hY2 => ?_
    obtain ⟨s3, H3, C3, cl3, fp3, rfl⟩ := hY2
    refine JTs_one <| JT_dnotin hu <| J_name 16 rfl <| J_name 10 rfl ⟨he, datK (hkD L), .inl (1 + (i : Nat)), 4, rfl, rfl, rfl, ?_, rfl, fun _ Y3 hY3 => ?_⟩
    · rw [isSome_hk]
      rfl
    obtain ⟨s4, H4, C4, cl4, fp4, rfl⟩ := hY3
    exact J_name 16 rfl ⟨rfl, rfl⟩
  have e9 : ((10 : Int) - 1).toNat = 9 := by decide
  rw [e9, hfst]
  refine J_int <| RJ_ix (xs := .int r :: rest) (.ol 7 rfl) at0 ?_
  refine JSs_pick [0, 1, 2, 3, 4, 5, 6] (by decide) ?_
  refine JSs_at ⟨lsl F { jj with v5 := some (.int r) } fr he od L.frame, lob F fr he od ns n g rows dues L⟩ rfl ?_
  refine JSs_cons <| JS_asgG [17, 6, 18] <| J_cH CS.pick hr <| JA_cons <| J_name 1 rfl <| JA_cons <| J_name 4 rfl <| JA_nil ⟨[0], by decide, by simp [lob], rfl, F.pa, kk, ns, n, g, ndL F.xs, rfl, hP, by simp [ndL]; omega, by simp [ndL]; omega, by omega, fun d ns' n' g' hd hP' => ⟨by simp, rfl, ?_⟩⟩
  obtain ⟨p, hp, rfl⟩ := List.mem_map.mp hd
  obtain ⟨p0, p4⟩ := hsz p hp
  obtain ⟨m, hm⟩ := Int.eq_ofNat_of_zero_le p0
  have hv := known_at nd hp
  obtain ⟨x, sz⟩ := p
  have hm : sz = (m : Int) := hm
  subst hm
  refine JG_tup (ds := [.str x, .int (m : Nat), .int 0]) rfl <| JGs_cons <| JG_name 17 scLaw.nd <| JGs_cons <| JG_name 6 scLaw.nd <| JGs_cons <| JG_name 18 scLaw.nd <| JGs_nil ?_
  let J2 : Ju := { jj with v5 := some (.int r), v17 := some (.str x), v6 := some (.int (m : Nat)), v18 := some (.int 0) }
  refine JSs_at ⟨lsl F J2 fr he od L.frame, lob F fr he od ns' n' g' rows dues L⟩ rfl ?_
  refine JSs_cons <| JS_par 19 9 rfl scLaw.nd <| JA_cons <| J_callTy call_tuple_of T.tuple <| JA_cons <| J_sliceL <| J_name 9 rfl <| JP_none <| JP_some <| J_name 6 rfl ⟨(m : Nat), rfl, iR L.free, .ol 3 rfl, fun z1 => JA_nil <| RC_tupleL (ds := iD (L.free.take m)) ?_ <| JA_cons <| J_sliceL <| J_name 9 rfl <| JP_some <| J_name 6 rfl ⟨(m : Nat), rfl, JP_none ⟨iR L.free, .ol 3 rfl, fun z2 => JA_nil ⟨_, _, rfl, ?_⟩⟩⟩⟩
  · rw [iD_dat, ← cut_take]
    exact .ol 7 rfl
  rw [cut_drop]
  refine JSs_pick [0, 1, 2, 8, 4, 5, 6] (by decide) ?_
  let J3 : Ju := { jj with v5 := some (.int r), v17 := some (.str x), v6 := some (.int (m : Nat)), v18 := some (.int 0), v19 := some (.tuple (iD (L.free.take m))) }
  let L' : LS := ⟨L.free.drop m, L.ents ++ [⟨r, L.made + 1, x, L.free.take m⟩], L.made + 1, L.frame⟩
  let OB1 : Obs := [(F.pa, penO ns' n' g'), (F.ro, .lst (rows.map .dat)), (F.du, .lst (dues.map .dat)), (z2, .lst (iR (L.free.drop m))), (he, .dk (datK (hkD L))), (F.fi, .lst [.tuple [.str "na", .tuple (iD (free0.take F.a))]]), (od, .lst (iR (L.ents.map (·.spot))))]
  refine JSs_at ⟨lsl F J3 z2 he od L.frame, OB1⟩ rfl ?_
  refine JSs_cons <| JS_dput hu <| J_tup <| JA_cons <| J_name 17 rfl <| JA_cons <| J_name 19 rfl <| JA_nil ⟨[.str x, .tuple (iD (L.free.take m))], rfl, rfl, J_name 10 rfl <| J_name 5 rfl ⟨he, datK (hkD L), .inl r, 4, rfl, rfl, rfl, by simp [datK, hkD]; omega, ?_⟩⟩
  rw [put_held (fr := L.free.drop m) (md := L.made + 1) (nm := L.made + 1) hr1]
  refine JSs_cons <| JS_expr <| J_append <| J_name 13 rfl ⟨od, _, 6, rfl, rfl, J_name 5 rfl ⟨6, iR (L.ents.map (·.spot)), rfl, by simp [iR]; omega, ?_⟩⟩
  refine JSs_cons <| JS_expr <| J_append <| J_name 7 rfl ⟨F.ro, _, 1, rfl, rfl, J_tup <| JA_cons <| J_str <| JA_cons <| J_name 5 rfl <| JA_cons <| J_name 17 rfl <| JA_cons <| J_lstD <| JA_nil ⟨[], rfl, rfl, JA_nil ⟨[.str "make", .int r, .str x, .list []], rfl, rfl, 1, rows.map .dat, rfl, by simp; omega, ?_⟩⟩⟩
  refine JSs_nil ⟨J3, z2, he, od, ns', n', g', .make r x m, L', ⟨hP'.1, hP'.2.1, by have := hP'.2.2.1; omega, hP'.2.2.2⟩, .make r x m hc hr1 hr2 hr3 hv (by omega), ?_⟩
  have eo : iR (L.ents.map (·.spot)) ++ [Rv.int r] = iR (L'.ents.map (·.spot)) := by simp [iR, L']
  unfold lob
  rw [rows_snoc, ← eo]
  rfl
end
end K71
end

section
open PySem PySem.Spec PyProof.Rows L2 DL SH
/-! K71ZA: the law's laps, all of them. -/
namespace K71
section
variable {P : Program} {w : World} {K : PySem.W.Frag} {mg : Str → Option Value} {base : Heap} {f : Addr} {fd : FuncData} {c : CA}
theorem law_laps {cdv : Value} {A0 : Around} {outer : List Env} {s0 : Shared} {H : Hp} {Φ : Rv → Obs → Prop} (CS : Cs P w K mg base c) (T : Tx mg) (hr : GR 9 (XL P w K mg base f cdv A0 outer s0 H).A) (q : Φ (.bool true) [])
    (F : Fx) (jj : Ju) (fr he od : Addr) (ns : List Int) (n g : Int) (ha : F.a ≤ 4) (hP : PenK 10 ns n g)
    (hn : ∀ p ∈ F.xs, nodeOk (nodeD p.1 p.2)) (hx : ∀ p ∈ F.xs, PyData.strOk p.1 = true) (nd : (F.xs.map (·.1)).Nodup) (l1 : 1 ≤ F.xs.length) (l2 : F.xs.length ≤ 24) (hsz : ∀ p ∈ F.xs, 0 ≤ p.2 ∧ p.2 ≤ 4) (hv : valR (knownR F.xs) (Sum.inr "na" : Key) = some (.dat (nodeD "na" F.a))) :
    JSs (XL P w K mg base f cdv A0 outer s0 H) ((defBody sLaw).drop 6) ⟨lsl F jj fr he od none, lob F fr he od ns n g [] [] (L00 F.a)⟩ (outE Φ) := by
  have hu := hu_of hr.room
  refine JSs_cons <| @JS_for _ _ _ _ _ _ _ [14] PassesOwn.never rfl ?_ (fun _ => rfl)
  refine JI_range1 (J_int ⟨40, rfl, by decide, by decide, fun k δ => ∃ (jj : Ju) (fr he od : Addr) (ns : List Int) (n g : Int) (hi : List (Op × LS)) (L : LS), PenK (10 + 3 * (k : Nat)) ns n g ∧ Ch F.xs (L00 F.a) hi L ∧ hi.length = k ∧ δ = ⟨lsl F jj fr he od L.frame, lob F fr he od ns n g (rowsD hi) (duesD (free0.take F.a) hi) L⟩,
    ⟨jj, fr, he, od, ns, n, g, [], L00 F.a, by simpa using hP, .nil, rfl, rfl⟩, fun _ _ _ => trivial, ?_, ?_⟩) T.range
  · rintro k d δ hd ⟨jj, fr, he, od, ns, n, g, hi, L, hP, ch, hk, rfl⟩
    have hk40 : k < 40 := by
      have := (List.getElem?_eq_some_iff.mp hd).1
      rw [rangeD_length] at this
      have e : (40 : Int).toNat = 40 := rfl
      omega
    have iL := (ch.at_ ha (linv0 ha)).1
    have hcnt := iL.cnt
    have hrw : (rowsD hi).length < 100 := by simp [rowsD]; omega
    have hdw : (duesD (free0.take F.a) hi).length < 100 := by simp [duesD]; omega
    refine JG_name 14 scLaw.nd ?_
    refine JSs_at ⟨lsl F { jj with v14 := some d } fr he od L.frame, lob F fr he od ns n g (rowsD hi) (duesD (free0.take F.a) hi) L⟩ rfl ?_
    refine JSs_cons <| JS_asg 15 scLaw.nd <| J_cH CS.draw hr <| JA_cons <| J_name 1 rfl <| JA_cons <| J_int <| JA_nil ⟨[0], by decide, by simp [lob], rfl, F.pa, 10 + 3 * (k : Nat), 5, ns, n, g, rfl, hP, by decide, by decide, by omega, fun way ns' n' g' w0 w1 hP' => ⟨by simp, rfl, ?_⟩⟩
    let J1 : Ju := { jj with v14 := some d, v15 := some (.int way) }
    refine JSs_at ⟨lsl F J1 fr he od L.frame, lob F fr he od ns' n' g' (rowsD hi) (duesD (free0.take F.a) hi) L⟩ rfl ?_
    refine JSs_via (lapM F (10 + 3 * (k : Nat) + 1) (rowsD hi) (duesD (free0.take F.a) hi) L) ?_ ?_
    · have els2 : ∀ {E : DE}, JSs (XL P w K mg base f cdv A0 outer s0 H) (match lapB.getD 1 (.Pass ⟨0, 0, 0, 0⟩) with
          | .If _ _ [.If _ _ els _] _ => els
          | _ => []) ⟨lsl F J1 fr he od L.frame, lob F fr he od ns' n' g' (rowsD hi) (duesD (free0.take F.a) hi) L⟩ { E with nx := lapM F (10 + 3 * (k : Nat) + 1) (rowsD hi) (duesD (free0.take F.a) hi) L } := by
        intro E
        show JSs _ [_] _ _
        cases hf : L.frame with
        | none =>
          have := lap_C (E := E) CS T hr F J1 fr he od ns' n' g' (10 + 3 * (k : Nat) + 1) (rowsD hi) (duesD (free0.take F.a) hi) L iL ha (by omega) hP' hrw hf
          rw [hf] at this
          exact JSs_one <| JS_if <| JT_cmp op_isN (by rfl) <| J_name 11 rfl <| J_none <| RJ_isN ⟨true, rfl, fun _ => this, nofun⟩
        | some cs => exact JSs_one <| JS_if <| JT_cmp op_isN (by rfl) <| J_name 11 rfl <| J_none <| RJ_isN ⟨false, rfl, nofun, fun _ => lap_D CS T hr F J1 fr he od ns' n' g' (10 + 3 * (k : Nat) + 1) (rowsD hi) (duesD (free0.take F.a) hi) L iL ha hP' hrw cs hf⟩
      have els : ∀ {E : DE}, JSs (XL P w K mg base f cdv A0 outer s0 H) (match lapB.getD 1 (.Pass ⟨0, 0, 0, 0⟩) with
          | .If _ _ els _ => els
          | _ => []) ⟨lsl F J1 fr he od L.frame, lob F fr he od ns' n' g' (rowsD hi) (duesD (free0.take F.a) hi) L⟩ { E with nx := lapM F (10 + 3 * (k : Nat) + 1) (rowsD hi) (duesD (free0.take F.a) hi) L } := by
        intro E
        show JSs _ [_] _ _
        refine JSs_one <| JS_if <| JT_w <| JW_and <| JT_cmp op_lt (by rfl) <| J_name 15 rfl <| J_int <| RJ_lt ⟨_, rfl, fun h1 => ?_, fun h1 => ⟨nofun, fun _ => els2⟩⟩
        refine JW_and1 <| JT_cmp (op_neDE (Nat.lt_of_succ_lt hu)) (by rfl) <| J_name 10 rfl <| J_dic0 fun z1 => RJ_neDE 4 7 rfl rfl ⟨_, rfl, fun h2 => JSs_pick [0, 1, 2, 3, 4, 5, 6] (by decide) ?_, fun h2 => JSs_pick [0, 1, 2, 3, 4, 5, 6] (by decide) els2⟩
        refine lap_B CS T CS.cl.code.cls hr F J1 fr he od ns' n' g' (10 + 3 * (k : Nat) + 1) (rowsD hi) (duesD (free0.take F.a) hi) L iL ha (by omega) hP' hrw fun e => ?_
        have : datK (hkD L) = [] := by simp [datK, hkD, e]
        rw [this] at h2
        cases h2
      refine JS_if <| JT_w <| JW_and <| JT_cmp op_lt (by rfl) <| J_name 15 rfl <| J_int <| RJ_lt ⟨_, rfl, fun h1 => ?_, fun h1 => ⟨nofun, fun _ => els⟩⟩
      refine JW_and1 <| JT_cmp op_lt (by rfl) <| J_callB call_lenD T.len <| JA_cons <| J_name 10 rfl <| JA_nil <| RC_lenD 4 rfl <| J_int <| RJ_lt ⟨_, rfl, fun h2 => ?_, fun h2 => els⟩
      have h2' := of_decide_eq_true h2
      exact lap_A CS T hr F J1 fr he od ns' n' g' (10 + 3 * (k : Nat) + 1) (rowsD hi) (duesD (free0.take F.a) hi) L iL ha (by omega) hP' hrw (by simp [datK, hkD] at h2'; omega) nd l1 l2 hsz
    · rintro _ ⟨J2, fr2, he2, od2, ns2, n2, g2, o, L2, hP2, st, rfl⟩
      have iL2 := linv_step ha iL st
      refine lap_due T hr F J2 fr2 he2 od2 ns2 n2 g2 _ _ L2 iL2 hdw ?_
      refine ⟨J2, fr2, he2, od2, ns2, n2, g2, hi ++ [(o, L2)], L2, ⟨hP2.1, hP2.2.1, by have := hP2.2.2.1; omega, hP2.2.2.2⟩, .snoc ch st, by simp [hk], ?_⟩
      have e1 : rowsD (hi ++ [(o, L2)]) = rowsD hi ++ [opD o] := by simp [rowsD]
      have e2 : duesD (free0.take F.a) (hi ++ [(o, L2)]) = duesD (free0.take F.a) hi ++ [dueD (free0.take F.a) L2] := by simp [duesD]
      rw [e1, e2]
  · rintro δ ⟨jj, fr, he, od, ns, n, g, hi, L, hP, ch, hk, rfl⟩
    have hk : hi.length = 40 := by
      rw [rangeD_length] at hk
      exact hk
    exact law_mach CS T hr q ha ch hk hn hx nd l1 l2 hv F.pa F.ro F.du fr he F.fi od _ _ _ _ _ _ _ _ _ _ _ _ _ _ _ _ _ _ _ _ _
end
end K71
end

section
open PySem PySem.Spec PyProof.Rows L2 DL SH
/-! K71ZB: the law. -/
namespace K71
section
variable {X : Cx} {δ : S} {Φ : Post}
theorem RJ_ixS {z : Str} {i : Int} {c : Nat} (hz : z.length ≤ sizeLine) (he : atI z.cps.toList i = some c) (q : Φ (.str ⟨#[c]⟩) δ) : RJ X (rIx X.K) (.str z) (.int i) δ Φ := fun F σ G H Q v u r x y k => by
  obtain rfl := rv_str x
  obtain rfl := rv_int y
  exact .inr (.inr ⟨z, i, c, rfl, rfl, hz, he, k _ _ δ G H r (Same.refl G) (.dat (.str _)) q⟩)
theorem RJ_addS {a b : Str} (h : a.length + b.length ≤ sizeLine) (q : Φ (.str (a ++ b)) δ) : RJ X (fun x y H Q => ∃ i j, x = .str i ∧ y = .str j ∧ i.length + j.length ≤ sizeLine ∧ Q (.str (i ++ j)) H) (.str a) (.str b) δ Φ := fun F σ G H Q v u r x y k => by
  obtain rfl := rv_str x
  obtain rfl := rv_str y
  exact ⟨a, b, rfl, rfl, h, k _ _ δ G H r (Same.refl G) (.dat (.str _)) q⟩
end
def nmOf (i : Int) : Str := match i.toNat with
  | 0 => "na"
  | 1 => "nb"
  | 2 => "nc"
  | _ => "nd"
def gN : Rv → Rv
  | .dat (.tuple [.int i, .int s]) => .dat (.tuple [.str (nmOf i), .int s, .int 0])
  | r => r
def xsOf (a b d : Int) : List (Str × Int) := [("na", a), ("nb", b), ("nc", d), ("nd", 0)]
def spLaw : Spc := fun as Φ => ∃ ns : List Int, as = ⟨[some (.list (iD ns))], []⟩ ∧ Φ (.bool true) []
theorem len2 {c : Nat} : ("n" : Str).length + (⟨#[c]⟩ : Str).length ≤ sizeLine := by
  have e : ("n" : Str).length = 1 := by decide +kernel
  rw [e]
  show 1 + 1 ≤ sizeLine
  decide
theorem xs_ok {a b d : Int} (h1 : 1 ≤ a ∧ a ≤ 4) (h2 : 1 ≤ b ∧ b ≤ 4) (h3 : 1 ≤ d ∧ d ≤ 4) : (∀ p ∈ xsOf a b d, nodeOk (nodeD p.1 p.2)) ∧ (∀ p ∈ xsOf a b d, PyData.strOk p.1 = true) ∧ ((xsOf a b d).map (·.1)).Nodup ∧ ∀ p ∈ xsOf a b d, 0 ≤ p.2 ∧ p.2 ≤ 4 := by
  have n1 : isName (.str "na") = true := by decide +kernel
  have n2 : isName (.str "nb") = true := by decide +kernel
  have n3 : isName (.str "nc") = true := by decide +kernel
  have n4 : isName (.str "nd") = true := by decide +kernel
  have o1 : okD (.str "na") = true := okS _ (by decide +kernel)
  have o2 : okD (.str "nb") = true := okS _ (by decide +kernel)
  have o3 : okD (.str "nc") = true := okS _ (by decide +kernel)
  have o4 : okD (.str "nd") = true := okS _ (by decide +kernel)
  refine ⟨fun p hp => ?_, fun p hp => ?_, ?_, fun p hp => ?_⟩
  · simp only [xsOf, List.mem_cons, List.not_mem_nil, or_false] at hp
    rcases hp with rfl | rfl | rfl | rfl
    · exact ⟨_, _, rfl, n1, o1, by omega, by omega⟩
    · exact ⟨_, _, rfl, n2, o2, by omega, by omega⟩
    · exact ⟨_, _, rfl, n3, o3, by omega, by omega⟩
    · exact ⟨_, _, rfl, n4, o4, by omega, by omega⟩
  · simp only [xsOf, List.mem_cons, List.not_mem_nil, or_false] at hp
    rcases hp with rfl | rfl | rfl | rfl
    · exact (okD_str o1).2
    · exact (okD_str o2).2
    · exact (okD_str o3).2
    · exact (okD_str o4).2
  · have e : (xsOf a b d).map (·.1) = (["na", "nb", "nc", "nd"] : List Str) := rfl
    rw [e]
    decide +kernel
  · simp only [xsOf, List.mem_cons, List.not_mem_nil, or_false] at hp
    rcases hp with rfl | rfl | rfl | rfl
    · exact ⟨by show 0 ≤ a; omega, by show a ≤ 4; omega⟩
    · exact ⟨by show 0 ≤ b; omega, by show b ≤ 4; omega⟩
    · exact ⟨by show 0 ≤ d; omega, by show d ≤ 4; omega⟩
    · exact ⟨by decide, by decide⟩
section
variable {P : Program} {w : World} {K : PySem.W.Frag} {mg : Str → Option Value} {base : Heap} {f : Addr} {fd : FuncData} {c : CA}
theorem fn_law (F : FnP K "law" sLaw f fd) (CS : Cs P w K mg base c) (T : Tx mg) : FnG P w K mg base 10 f fd ["script"] spLaw := by
  refine fnG_of F scLaw (fun cdv A0 outer s0 H as Φ hr hs hl => ?_)
  obtain ⟨ns0, rfl, q⟩ := hs
  have hr : GR 9 (XL P w K mg base f cdv A0 outer s0 H).A := hr
  let SL0 : List (Option Rv) := [some (.list (iD ns0)), none, none, none, none, none, none, none, none, none, none, none, none, none, none, none, none, none, none, none, none, none, none]
  refine JSs_cons <| JS_asg 1 scLaw.nd <| J_cH CS.pen hr <| JA_cons <| J_name 0 rfl <| JA_nil ⟨[], List.nodup_nil, by simp, rfl, ns0, rfl, fun pa ns' hP => ⟨by simp, rfl, ?_⟩⟩
  let SL1 : List (Option Rv) := [some (.list (iD ns0)), some (.adr pa), none, none, none, none, none, none, none, none, none, none, none, none, none, none, none, none, none, none, none, none, none]
  refine JSs_at ⟨SL1, [(pa, penO ns' 0 0)]⟩ rfl ?_
  refine JSs_via (fun δ1 => ∃ (a b d : Int) (ns : List Int) (n g : Int) (X : Obs), (1 ≤ a ∧ a ≤ 4) ∧ (1 ≤ b ∧ b ≤ 4) ∧ (1 ≤ d ∧ d ≤ 4) ∧ PenK 10 ns n g ∧ δ1 = ⟨SL1.set 2 (some (.list (iD [a, b, d, 0]))), (pa, penO ns n g) :: X⟩) ?_ ?_
  · refine JS_asg 2 scLaw.nd <| J_frz <| J_cat <| J_lc rfl scLaw.nd (blkOk_by (own := [("one", 3)]) (N := nLaw) (sc := defScope sLaw) (by decide +kernel)) ?_
    refine JI_range1 (J_int ⟨3, rfl, by decide, by decide, fun k acc δ2 => ∃ (zs : List Int) (ns : List Int) (n g : Int), acc = iR zs ∧ zs.length = k ∧ (∀ z ∈ zs, 1 ≤ z ∧ z ≤ 4) ∧ PenK (k : Nat) ns n g ∧ δ2 = ⟨SL1, [(pa, penO ns n g)]⟩, ⟨[], ns', 0, 0, rfl, rfl, nofun, hP, rfl⟩, fun _ _ _ _ => trivial, ?_, ?_⟩) T.range
    · rintro k e acc δ2 hd ⟨zs, ns, n, g, rfl, hz, hzs, hP, rfl⟩ Y hY
      have hk3 : k < 3 := by
        have := (List.getElem?_eq_some_iff.mp hd).1
        rw [rangeD_length] at this
        have e : (3 : Int).toNat = 3 := rfl
        omega
      obtain ⟨s2, H1, C1, cl1, fp, rfl⟩ := hY
      refine JG_name 3 scLaw.nd fun Y2 hY2 => JTs_nil ⟨fun _ Y3 hY3 => ?_, nofun⟩
      obtain ⟨s3, H3, C3, cl3, fp3, rfl⟩ := hY3
      refine J_bin op_add <| J_int <| J_cH CS.draw hr <| JA_cons <| J_name 1 rfl <| JA_cons <| J_int <| JA_nil ⟨[0], by decide, by simp, rfl, pa, (k : Nat), 4, ns, n, g, rfl, hP, by decide, by decide, by omega, fun x ns2 n2 g2 x0 x1 hP2 => ⟨by simp, rfl, RJ_add ⟨zs ++ [1 + x], ns2, n2, g2, (ints_snoc _ _).symm, by simp [hz], ?_, ?_, rfl⟩⟩⟩
      · intro z hz
        rcases List.mem_append.mp hz with hz | hz
        · exact hzs z hz
        · rw [List.mem_singleton.mp hz]
          omega
      · have e : ((k + 1 : Nat) : Int) = (k : Nat) + 1 := by omega
        rw [e]
        exact hP2
    · rintro acc δ2 ⟨zs, ns, n, g, rfl, hz, hzs, hP, rfl⟩ _ z1
      have hz : zs.length = 3 := by
        rw [rangeD_length] at hz
        exact hz
      match zs, hz with
      | [a, b, d], _ =>
        refine J_lst <| JA_cons <| J_int <| JA_nil ⟨rfl, fun z2 => ⟨z1, z2, 1, 2, _, _, rfl, rfl, rfl, rfl, by simp [iR], fun z3 => ⟨z3, 3, iD [a, b, d, 0], rfl, rfl, ?_⟩⟩⟩
        exact ⟨a, b, d, ns, n, g, _, hzs a (by simp), hzs b (by simp), hzs d (by simp), ⟨hP.1, hP.2.1, by have := hP.2.2.1; rw [rangeD_length] at this; have e : (((3 : Int).toNat : Nat) : Int) = 3 := rfl; omega, hP.2.2.2⟩, rfl⟩
  · rintro _ ⟨a, b, d, ns, n, g, X, ha, hb, hd, hP, rfl⟩
    refine JSs_pick [0] (by decide) ?_
    obtain ⟨m, rfl⟩ := Int.eq_ofNat_of_zero_le (show 0 ≤ a by omega)
    obtain ⟨x1, x2, x3, x4⟩ := xs_ok ha hb hd
    refine JSs_cons <| JS_ofL 4 rfl scLaw.nd (blkOk_by (own := [("at", 5), ("size", 6)]) (N := nLaw) (sc := defScope sLaw) (by decide +kernel)) <| JL_P <| JI_enum (J_name 2 rfl ⟨iD [(m : Nat), b, d, 0], rfl, by simp [iD], fun _ => true, gN, trivial, fun e he Y hY => ?_, fun z1 => ?_⟩) T.enumerate
    · obtain ⟨s2, H1, C1, cl1, fp, rfl⟩ := hY
      obtain ⟨i, s, ch, hch, hnm, rfl⟩ : ∃ (i s : Int) (ch : Nat), atI (("abcd" : Str).cps.toList) i = some ch ∧ ("n" : Str) ++ ⟨#[ch]⟩ = nmOf i ∧ e = .tuple [.int i, .int s] := by
        have he : e ∈ ([.tuple [.int 0, .int (m : Nat)], .tuple [.int 1, .int b], .tuple [.int 2, .int d], .tuple [.int 3, .int 0]] : List Rv) := he
        simp only [List.mem_cons, List.not_mem_nil, or_false] at he
        rcases he with rfl | rfl | rfl | rfl
        · exact ⟨0, _, 97, by decide +kernel, by decide +kernel, rfl⟩
        · exact ⟨1, _, 98, by decide +kernel, by decide +kernel, rfl⟩
        · exact ⟨2, _, 99, by decide +kernel, by decide +kernel, rfl⟩
        · exact ⟨3, _, 100, by decide +kernel, by decide +kernel, rfl⟩
      refine JG_tup rfl <| JGs_cons <| JG_name 5 scLaw.nd <| JGs_cons <| JG_name 6 scLaw.nd <| JGs_nil fun Y2 hY2 => JTs_nil ⟨rfl, rfl, fun _ Y3 hY3 => ?_⟩
      obtain ⟨s3, H3, C3, cl3, fp3, rfl⟩ := hY3
      refine J_tup <| JA_cons <| J_bin op_add_str <| J_str <| J_ix ix_seq <| J_str <| J_name 5 rfl <| RJ_ixS (by decide +kernel) hch <| RJ_addS len2 <| JA_cons <| J_name 6 rfl <| JA_cons <| J_int <| JA_nil ⟨[.str (("n" : Str) ++ ⟨#[ch]⟩), .int s, .int 0], rfl, rfl, ?_, rfl⟩
      rw [hnm]
      rfl
    have ep : pick (fun _ => true) gN (enumD (iD [(m : Nat), b, d, 0])) = (ndL (xsOf (m : Nat) b d)).map Rv.dat := by
      rw [pick_all]
      rfl
    rw [ep]
    refine JSs_frz 4 1 z1 (ds := ndL (xsOf (m : Nat) b d)) rfl rfl ?_
    let SZ : List PyData := iD [(m : Nat), b, d, 0]
    let SL2 : List (Option Rv) := [some (.list (iD ns0)), some (.adr pa), some (.list SZ), none, some (.list (ndL (xsOf (m : Nat) b d))), none, none, none, none, none, none, none, none, none, none, none, none, none, none, none, none, none, none]
    refine JSs_at ⟨SL2, [(pa, penO ns n g)]⟩ rfl ?_
    have rg : RgOk (m : Nat) 200 := RgOk.of_le (by omega) (by omega) (by omega) (by omega)
    have rg2 : RgOk 0 (m : Nat) := RgOk.of_le (by omega) (by omega) (by omega) (by omega)
    refine JSs_cons <| JS_asgG [7, 8, 9, 10, 11] <| J_tupO <| JA_cons <| J_lst <| JA_nil ⟨rfl, fun ro => JA_cons <| J_lst <| JA_nil ⟨rfl, fun du => ?_⟩⟩
    refine JA_cons <| J_listRg2 rfl T.list T.range <| J_ix ix_seq <| J_name 2 rfl <| J_int <| RJ_ix (xs := [.int (m : Nat), .int b, .int d, .int 0]) .dl rfl <| J_int ⟨_, 200, rfl, rfl, rg, fun fr => JA_cons <| J_dic0 fun he => JA_cons <| J_none <| JA_nil ⟨rfl, fun tp => ?_⟩⟩
    refine JG_tupO 5 rfl rfl <| JGs_cons <| JG_name 7 scLaw.nd <| JGs_cons <| JG_name 8 scLaw.nd <| JGs_cons <| JG_name 9 scLaw.nd <| JGs_cons <| JG_name 10 scLaw.nd <| JGs_cons <| JG_name 11 scLaw.nd <| JGs_nil ?_
    rw [range_drop m (by omega)]
    refine JSs_pick [0, 1, 2, 3, 4] (by decide) ?_
    let SL3 : List (Option Rv) := [some (.list (iD ns0)), some (.adr pa), some (.list SZ), none, some (.list (ndL (xsOf (m : Nat) b d))), none, none, some (.adr ro), some (.adr du), some (.adr fr), some (.adr he), some .none, none, none, none, none, none, none, none, none, none, none, none]
    refine JSs_at ⟨SL3, [(pa, penO ns n g), (ro, .lst []), (du, .lst []), (fr, .lst (iR (free0.drop m))), (he, .dk [])]⟩ rfl ?_
    refine JSs_cons <| JS_asg 12 scLaw.nd <| J_lst <| JA_cons <| J_tup <| JA_cons <| J_str <| JA_cons <| J_tupRg1 rfl T.tuple T.range <| J_ix ix_seq <| J_name 2 rfl <| J_int <| RJ_ix (xs := [.int (m : Nat), .int b, .int d, .int 0]) .dl rfl ⟨(m : Nat), rfl, rg2, JA_nil ⟨[.str "na", .tuple (intsD 0 (((m : Nat) : Int) - 0).toNat)], rfl, rfl, JA_nil ⟨rfl, fun fi => ?_⟩⟩⟩
    rw [range_take m (by omega)]
    refine JSs_cons <| JS_asg 13 scLaw.nd <| J_lst <| JA_nil ⟨rfl, fun od => ?_⟩
    let F : Fx := ⟨pa, ro, du, fi, iD ns0, SZ, xsOf (m : Nat) b d, m⟩
    let J0 : Ju := ⟨none, none, none, none, none, none, none, none, none, none⟩
    refine JSs_at ⟨lsl F J0 fr he od none, lob F fr he od ns n g [] [] (L00 m)⟩ rfl ?_
    exact law_laps CS T hr q F J0 fr he od ns n g (by show m ≤ 4; omega) hP x1 x2 x3 (by simp [F, xsOf]) (by simp [F, xsOf]) x4 (known_at x3 (p := (("na" : Str), ((m : Nat) : Int))) (by simp [F, xsOf]))
end
end K71
end

section
/-! HG: the head's call, for a function of data under guards = some []. -/
namespace SH
open PySem PySem.Spec PyProof.Rows L2 DL
/-- a law's promise: True of each row of ints -/
def spTrue : Spc := fun as Φ => ∃ ns : List Int, as = ⟨[some (.list (ns.map .int))], []⟩ ∧ Φ (.bool true) []
theorem ints_dtS {K : PySem.W.Frag} {G : Hp} : ∀ ns : List Int, DtAll K G (ns.map V.int) (ns.map PyData.int)
  | [] => .nil
  | n :: ns => .cons (.int n) (ints_dtS ns)
theorem script_spD {K : PySem.W.Frag} {H : Hp} {a : Addr} {ns : List Int} (hS : SqL K H a (ns.map V.int)) : spS K spTrue [.ref a] H fun v _ => v = .bl true := by
  have h1 : HR K (fun _ => none) H H [] := ⟨Same.refl H, fun a o e => (nomatch e), fun a o e => (by cases e), List.nodup_nil⟩
  have hslo : ∀ (i : Nat) (r : Rv), ([some (Rv.list (ns.map .int))] : List (Option Rv))[i]? = some (some r) → ∃ v, ([V.ref a].map some)[i]? = some (some v) ∧ RvOk K H v r := by
    intro i r e
    cases i with
    | zero =>
      have e : Rv.list (ns.map .int) = r := Option.some.inj (Option.some.inj e)
      subst e
      exact ⟨.ref a, rfl, .dat (.lst hS (ints_dtS ns))⟩
    | succ i => simp at e
  have h2 : Rel K (fun _ => none) ([V.ref a].map some) H H ⟨[some (.list (ns.map .int))], []⟩ := ⟨h1, rfl, hslo⟩
  have h3 : spTrue ⟨[some (.list (ns.map .int))], []⟩ fun r _ => r = Rv.bool true := ⟨ns, rfl, rfl⟩
  exact ⟨_, _, _, _, h2, h3, fun v r ob' G' H' _ _ hv hd => by
    rw [hd] at hv
    exact rv_bool hv⟩
theorem gr_caller {k : Nat} (h : Room k callerA) : GR k callerA := ⟨h, rfl⟩
/-- the promise that walk_ofE asks of a def at the caller, from FnG: wrapped so that the def is only called there -/
theorem call_here {P : Program} {w : World} {K : PySem.W.Frag} {mg : Str → Option Value} {base : Heap} {k : Nat} {f a : Addr} {fd : FuncData} {x : Str} {s : Shared} {H : Hp} {ns : List Int} (Fn : FnG P w K mg base k f fd [x] spTrue) (hr : Room k callerA)
    (e0 : Env0 P w K mg base callerA [] s H) (hb : BindsTo s fd ⟨[.ref a], []⟩ [(x, .ref a)]) (hS : SqL K H a (ns.map V.int)) :
    codeAny (model P w) callerA (.call (.ref f) ⟨[.ref a], []⟩) (CR CX0 [] P w H s (fun v _ => v = .bl true) E0) s :=
  Fn.run callerA [] s H ⟨[.ref a], []⟩ [.ref a] [.ref a] _ (gr_caller hr) e0 hb (.cons rfl .nil) rfl (script_spD hS)
section
variable {P : Program} {w : World} {K : PySem.W.Frag} {mg mb : Str → Option Value} {k : Nat} {fa a : Addr} {fd : FuncData} {x : Str} {t : Shared} {vs : List Value} {ns : List Int}
/-- what is hidden from the base is the script alone -/
theorem env_caller {H : Hp} (KX : K.In t.heap) (n1 : t.heap.Ns mainGlobals mg) (n2 : t.heap.Ns builtinsNs mb) (n3 : ∀ y : Str, y ≠ "__name__" → mb y = bootBuiltins y) (n4 : t.heap.NoLimit) (hg : t.gens = #[])
    (ha : t.heap.get? a = some { cls := .type "list", data := .seq vs.toArray }) (hok : HOk P w H t.heap) (hA : ∀ b, H b ≠ none → b = a) (hK : H a ≠ none → K.lookup a = none) :
    ∃ base : Heap, K.In base ∧ base.Ns mainGlobals mg ∧ Env0 P w K mg base callerA [] t H := by
  have only : ∀ b u, H b = some u → b = a ∧ H a ≠ none := fun b u e => by
    have z := hA b (by rw [e]; exact nofun)
    subst z
    exact ⟨rfl, by rw [e]; exact nofun⟩
  have kin : K.In (hidT t.heap H) := fun b o e => by
    refine hidT_get (KX b o e) ?_
    cases q : H b with
    | none => rfl
    | some u =>
      obtain ⟨z1, z2⟩ := only b u q
      rw [z1, hK z2] at e
      cases e
  have names : ∀ {b : Addr} {m : Str → Option Value}, t.heap.Ns b m → (hidT t.heap H).Ns b m := by
    rintro b m ⟨o, es, ep, e, d, r⟩
    refine ⟨o, es, ep, hidT_get e ?_, d, r⟩
    cases q : H b with
    | none => rfl
    | some u =>
      obtain ⟨z1, _⟩ := only b u q
      rw [z1, ha] at e
      cases e
      have d' : Data.seq vs.toArray _ = Data.dict es ep := d
      cases d'
  obtain ⟨mc, m1, m2⟩ := n4
  exact ⟨_, kin, names n1, rfl, ⟨kin, names n1, ⟨mb, names n2, n3⟩, mc, names m1, m2⟩, fun b o e => of_hidT e, Nat.le_of_eq (hidT_size _ _), trivial, fun b z => (List.not_mem_nil z).elim, hok, .of_eq hg⟩
/-- the law's call at the caller gives True and keeps the heap -/
theorem law_callG (KX : K.In t.heap) (n1 : t.heap.Ns mainGlobals mg) (n2 : t.heap.Ns builtinsNs mb) (n3 : ∀ y : Str, y ≠ "__name__" → mb y = bootBuiltins y) (n4 : t.heap.NoLimit) (hg : t.gens = #[])
    (ha : t.heap.get? a = some { cls := .type "list", data := .seq vs.toArray }) (hi : IntsAre vs ns) (hl : ns.length ≤ sizeLine) (hr : Room k callerA)
    (Fn : ∀ base : Heap, K.In base → base.Ns mainGlobals mg → FnG P w K mg base k fa fd [x] spTrue) (hb : ∀ (s : Shared) (u : Value), BindsTo s fd ⟨[u], []⟩ [(x, u)]) :
    codeAny (model P w) callerA (.call (.ref fa) ⟨[.ref a], []⟩) (fun r s' => r = .ok (.ret (.bool true)) ∧ OldK t.heap s'.heap ∧ s'.os = t.os ∧ AllBare s'.gens) t := by
  have rv := vals_ints hi
  have any : ∀ H : Hp, (∀ b, H b = none ∨ ∃ o xs, H b = some (.frz o (.lst xs))) → SqL K H a (ns.map V.int) → HOk P w H t.heap → (∀ b, H b ≠ none → b = a) → (H a ≠ none → K.lookup a = none) →
      codeAny (model P w) callerA (.call (.ref fa) ⟨[.ref a], []⟩) (fun r s' => r = .ok (.ret (.bool true)) ∧ OldK t.heap s'.heap ∧ s'.os = t.os ∧ AllBare s'.gens) t := by
    intro H hO hS hok hA hK
    obtain ⟨base, b1, b2, e0⟩ := env_caller KX n1 n2 n3 n4 hg ha hok hA hK
    refine codeAny_mono (call_here (Fn base b1 b2) hr e0 (hb t (.ref a)) hS) fun r s' h => ?_
    rcases r with e | fl
    · exact (show False from h).elim
    cases fl with
    | next => exact (show False from h).elim
    | brk => exact (show False from h).elim
    | cont => exact (show False from h).elim
    | ret u =>
      obtain ⟨v, H', o1, o2, un, ok', rel, q⟩ := h
      obtain rfl : v = .bl true := q
      obtain rfl : u = Value.bool true := rel
      refine ⟨rfl, OldK.of_keep fun b o e => ?_, o1, o2⟩
      rcases hO b with z | ⟨ob, xs, z⟩
      · exact un.keep b o e z (fun m => (List.not_mem_nil m).elim) (by simp)
      · obtain ⟨p1, _⟩ := hok b _ z
        obtain ⟨p2, _⟩ := ok' b _ (un.frzs b ob _ z)
        rw [e] at p1
        cases p1
        exact p2
  rcases hk : K.lookup a with _ | o
  · refine any (fun b => if b = a then some (.frz { cls := .type "list", data := .seq vs.toArray } (.lst (ns.map V.int))) else none) (fun b => ?_) (.inl (.inr ⟨_, if_pos rfl⟩)) (fun b u z => ?_) (fun b z => Decidable.byContradiction fun n => z (if_neg n)) fun _ => hk
    · by_cases n : b = a
      · exact .inr ⟨_, _, if_pos n⟩
      · exact .inl (if_neg n)
    · by_cases n : b = a
      · subst n
        cases (if_pos rfl).symm.trans z
        exact ⟨ha, by rw [List.length_map]; exact hl, vs, _, rv, ha⟩
      · cases (if_neg n).symm.trans z
  · have e := KX a o hk
    rw [ha] at e
    cases e
    exact any (fun _ => none) (fun _ => .inl rfl) (.inr ⟨_, vs.toArray, _, hk, rfl, rfl, rfl, by rw [List.size_toArray, hi.length]; exact hl, by simpa using rv⟩) (fun b u z => nomatch z) (fun b z => absurd rfl z) fun z => absurd rfl z
end
end SH
end

section
/-! K71ZC: the head of k71. -/
namespace K71
open PySem PySem.Spec PyProof.Rows L2 DL SH
def d_is_integer : He.DefD := ⟨("is_integer", none), "is_integer", "is_integer", defArgs sInteger, defBody sInteger, defScope sInteger, [], []⟩
def d_is_within : He.DefD := ⟨("is_within", none), "is_within", "is_within", defArgs sWithin, defBody sWithin, defScope sWithin, [], []⟩
def d_is_listed : He.DefD := ⟨("is_listed", none), "is_listed", "is_listed", defArgs sListed, defBody sListed, defScope sListed, [], []⟩
def d_is_row : He.DefD := ⟨("is_row", none), "is_row", "is_row", defArgs sRow, defBody sRow, defScope sRow, [], []⟩
def d_is_name : He.DefD := ⟨("is_name", none), "is_name", "is_name", defArgs sName, defBody sName, defScope sName, [], []⟩
def d_are_unlike : He.DefD := ⟨("are_unlike", none), "are_unlike", "are_unlike", defArgs sUnlike, defBody sUnlike, defScope sUnlike, [], []⟩
def d_fixed : He.DefD := ⟨("fixed", none), "fixed", "fixed", defArgs sFixed, defBody sFixed, defScope sFixed, [], []⟩
def d_is_node : He.DefD := ⟨("is_node", none), "is_node", "is_node", defArgs sNode, defBody sNode, defScope sNode, [], []⟩
def d_are_nodes : He.DefD := ⟨("are_nodes", none), "are_nodes", "are_nodes", defArgs sNodes, defBody sNodes, defScope sNodes, [], []⟩
def d_is_register : He.DefD := ⟨("is_register", none), "is_register", "is_register", defArgs sRegister, defBody sRegister, defScope sRegister, [], []⟩
def d_are_registers : He.DefD := ⟨("are_registers", none), "are_registers", "are_registers", defArgs sRegisters, defBody sRegisters, defScope sRegisters, [], []⟩
def d_is_making : He.DefD := ⟨("is_making", none), "is_making", "is_making", defArgs sMaking, defBody sMaking, defScope sMaking, [], []⟩
def d_is_instruction : He.DefD := ⟨("is_instruction", none), "is_instruction", "is_instruction", defArgs sInstr, defBody sInstr, defScope sInstr, [], []⟩
def d_need_code : He.DefD := ⟨("need_code", none), "need_code", "need_code", defArgs sNeedCode, defBody sNeedCode, defScope sNeedCode, [], []⟩
def d_are_rows_of : He.DefD := ⟨("are_rows_of", none), "are_rows_of", "are_rows_of", defArgs sRowsOf, defBody sRowsOf, defScope sRowsOf, [], []⟩
def d_many_nodes : He.DefD := ⟨("many_nodes", none), "many_nodes", "many_nodes", defArgs sMany, defBody sMany, defScope sMany, [], []⟩
def d_law_pen : He.DefD := ⟨("_law_pen", none), "_law_pen", "_law_pen", defArgs sPen, defBody sPen, defScope sPen, [], []⟩
def d_law_draw : He.DefD := ⟨("_law_draw", none), "_law_draw", "_law_draw", defArgs sDraw, defBody sDraw, defScope sDraw, [], []⟩
def d_law_pick : He.DefD := ⟨("_law_pick", none), "_law_pick", "_law_pick", defArgs sPick, defBody sPick, defScope sPick, [], []⟩
def d_law : He.DefD := ⟨("law", none), "law", "law", defArgs sLaw, defBody sLaw, defScope sLaw, [], []⟩
def d_Code_init : He.DefD := ⟨("Code", some "__init__"), "__init__", "Code.__init__", defArgs sCodeInit, defBody sCodeInit, defScope sCodeInit, [], []⟩
def d_Cells_init : He.DefD := ⟨("Cells", some "__init__"), "__init__", "Cells.__init__", defArgs sCellsInit, defBody sCellsInit, defScope sCellsInit, [], []⟩
def d_Cells_take : He.DefD := ⟨("Cells", some "take"), "take", "Cells.take", defArgs sTake, defBody sTake, defScope sTake, [], []⟩
def d_Cells_give_back : He.DefD := ⟨("Cells", some "give_back"), "give_back", "Cells.give_back", defArgs sGive, defBody sGive, defScope sGive, [], []⟩
def d_Turn_init : He.DefD := ⟨("Turn", some "__init__"), "__init__", "Turn.__init__", defArgs sTurnInit, defBody sTurnInit, defScope sTurnInit, [], []⟩
def d_Turn_read : He.DefD := ⟨("Turn", some "read"), "read", "Turn.read", defArgs sRead, defBody sRead, defScope sRead, [], []⟩
def d_Turn_put : He.DefD := ⟨("Turn", some "put"), "put", "Turn.put", defArgs sPut, defBody sPut, defScope sPut, [], []⟩
def d_Turn_kept : He.DefD := ⟨("Turn", some "kept"), "kept", "Turn.kept", defArgs sKept, defBody sKept, defScope sKept, [], []⟩
def d_Machine_init : He.DefD := ⟨("Machine", some "__init__"), "__init__", "Machine.__init__", defArgs (mth 0), defBody (mth 0), defScope (mth 0), [], []⟩
def d_Machine_loaded : He.DefD := ⟨("Machine", some "loaded"), "loaded", "Machine.loaded", defArgs (mth 1), defBody (mth 1), defScope (mth 1), [], []⟩
def d_Machine_node : He.DefD := ⟨("Machine", some "node"), "node", "Machine.node", defArgs (mth 2), defBody (mth 2), defScope (mth 2), [], []⟩
def d_Machine_taken : He.DefD := ⟨("Machine", some "taken"), "taken", "Machine.taken", defArgs (mth 3), defBody (mth 3), defScope (mth 3), [], []⟩
def d_Machine_step : He.DefD := ⟨("Machine", some "step"), "step", "Machine.step", defArgs (mth 4), defBody (mth 4), defScope (mth 4), [], []⟩
def d_Machine_do : He.DefD := ⟨("Machine", some "do"), "do", "Machine.do", defArgs (mth 5), defBody (mth 5), defScope (mth 5), [], []⟩
def d_Machine_go_on : He.DefD := ⟨("Machine", some "go_on"), "go_on", "Machine.go_on", defArgs (mth 6), defBody (mth 6), defScope (mth 6), [], []⟩
def d_Machine_note : He.DefD := ⟨("Machine", some "note"), "note", "Machine.note", defArgs (mth 7), defBody (mth 7), defScope (mth 7), [], []⟩
def d_Machine_enter : He.DefD := ⟨("Machine", some "enter"), "enter", "Machine.enter", defArgs (mth 8), defBody (mth 8), defScope (mth 8), [], []⟩
def d_Machine_need_behind : He.DefD := ⟨("Machine", some "need_behind"), "need_behind", "Machine.need_behind", defArgs (mth 9), defBody (mth 9), defScope (mth 9), [], []⟩
def d_Machine_apart : He.DefD := ⟨("Machine", some "apart"), "apart", "Machine.apart", defArgs (mth 11), defBody (mth 11), defScope (mth 11), [], []⟩
def d_Machine_make : He.DefD := ⟨("Machine", some "make"), "make", "Machine.make", defArgs (mth 12), defBody (mth 12), defScope (mth 12), [], []⟩
def d_Machine_leave : He.DefD := ⟨("Machine", some "leave"), "leave", "Machine.leave", defArgs (mth 14), defBody (mth 14), defScope (mth 14), [], []⟩
def d_Machine_cells : He.DefD := ⟨("Machine", some "cells"), "cells", "Machine.cells", defArgs (mth 21), defBody (mth 21), defScope (mth 21), [], []⟩
def d_Machine_held : He.DefD := ⟨("Machine", some "held"), "held", "Machine.held", defArgs (mth 22), defBody (mth 22), defScope (mth 22), [], []⟩
def fnL : List He.DefD := [d_is_integer, d_is_within, d_is_listed, d_is_row, d_is_name, d_are_unlike, d_fixed, d_is_node, d_are_nodes, d_is_register, d_are_registers, d_is_making, d_is_instruction, d_need_code, d_are_rows_of, d_many_nodes, d_law_pen, d_law_draw, d_law_pick, d_law, d_Code_init, d_Cells_init, d_Cells_take, d_Cells_give_back, d_Turn_init, d_Turn_read, d_Turn_put, d_Turn_kept, d_Machine_init, d_Machine_loaded, d_Machine_node, d_Machine_taken, d_Machine_step, d_Machine_do, d_Machine_go_on, d_Machine_note, d_Machine_enter, d_Machine_need_behind, d_Machine_apart, d_Machine_make, d_Machine_leave, d_Machine_cells, d_Machine_held]
def faL : List He.Fa := [.glo "is_integer", .glo "is_within", .glo "is_listed", .glo "is_row", .glo "is_name", .glo "are_unlike", .glo "fixed", .glo "is_node", .glo "are_nodes", .glo "is_register", .glo "are_registers", .glo "is_making", .glo "is_instruction", .glo "need_code", .glo "are_rows_of", .glo "many_nodes", .glo "_law_pen", .glo "_law_draw", .glo "_law_pick", .glo "law", .free "isinstance", .free "list", .free "tuple", .free "str", .free "bool", .free "dict", .free "len", .free "all", .free "sum", .free "range", .free "int", .free "abs", .free "enumerate", .free "zip", .free "sorted", .str "LETTERS" lettersS, .int "MOST_NAME" 8, .str "MAKE" "make", .str "CALL" "call", .str "GIVE" "give", .str "TAIL" "tail", .str "ENTER" "enter", .str "MATCH" "match", .str "OPEN" "open", .str "LEAVE" "leave", .int "MOST_CELLS" 9, .int "MOST_FRAME" 18, .int "MOST_FIELDS" 4, .int "MOST_REGISTER" 31, .int "MOST_NODES" 24, .int "MOST_PLACES" 4000, .int "MOST_ROWS" 30000, .int "MOST_ROOM" 100000, .int "MOST_LOADED" 2000, .str "RUNS" "runs", .glo "Code", .cls "Code", .mkr "Code", .noat "Code" "nodes", .noat "Code" "known", .noat "Code" "instructions", .noat "Code" "start", .glo "Cells", .cls "Cells", .mkr "Cells", .noat "Cells" "free", .glo "Turn", .cls "Turn", .mkr "Turn", .noat "Turn" "registers", .noat "Turn" "frame", .noat "Turn" "back", .noat "Turn" "register", .glo "Machine", .cls "Machine", .mkr "Machine", .noat "Machine" "code", .noat "Machine" "room", .noat "Machine" "free", .noat "Machine" "nodes", .noat "Machine" "made", .noat "Machine" "place", .noat "Machine" "status", .noat "Machine" "why", .noat "Machine" "given", .noat "Machine" "line", .noat "Machine" "moments", .meth "Cells" "take", .meth "Cells" "give_back", .meth "Turn" "read", .meth "Turn" "put", .meth "Turn" "kept", .meth "Machine" "loaded", .meth "Machine" "node", .meth "Machine" "taken", .meth "Machine" "step", .meth "Machine" "do", .meth "Machine" "go_on", .meth "Machine" "note", .meth "Machine" "enter", .meth "Machine" "need_behind", .meth "Machine" "apart", .meth "Machine" "make", .meth "Machine" "leave", .meth "Machine" "cells", .meth "Machine" "held", .glo "LENGTHS", .glo "Fault"]
def tsL : List He.Tab := [(fun K => He.ga K "LENGTHS", ["enter", "match", "open", "make", "call", "leave", "give", "tail"])]
def lvL : List (Str × He.Dv) := [("enter", .int 2), ("match", .int 3), ("open", .int 3), ("make", .int 4), ("call", .int 4), ("leave", .int 2), ("give", .int 2), ("tail", .int 3)]
def exL (K : PySem.W.Frag) : Bool := He.valsB K (He.ga K "LENGTHS") lvL && (He.eqO (PySem.W.findIn K (.ref (He.ga K "Code")) "__class__") (some (some (.builtin "object.__class__"))) && (He.eqO (PySem.W.specialIn K (.builtin "object.__class__") "__get__") (some (some (.builtin "getset_descriptor.__get__"))) && (decide (PySem.W.takesIn K (.builtin "object.__class__") = some true) && (decide (PySem.W.mroIn K (He.ga K "Code") (.type "object") = some true) && decide (PySem.W.kitOne K (.ref (He.ga K "Code")) (.ref (He.ga K "Code")) = some true)))))
abbrev RR : PySem.W.OpenRow := PySem.W.OpenLaw.row PySem.Challenge.rw_roomforall_k71_which_cells_are_taken
abbrev hkL : PySem.W.Hook := He.hookX 4 faL fnL tsL [] exL
def obL (s : PySem.W.SharedT) : He.AlX := He.obsX 4 faL fnL tsL [] exL (HandSHeadRun.getT s)
theorem obL_eq (s : PySem.W.SharedT) : obL s = hkL.obs s.abs := He.obsX_eq (HandSHeadRun.getT_eq s)
abbrev looseL : List Str := [("_wall" : Str), ("LETTERS" : Str), ("MOST_NAME" : Str), ("is_integer" : Str), ("is_within" : Str), ("is_listed" : Str), ("is_row" : Str), ("is_name" : Str), ("are_unlike" : Str), ("MAKE" : Str), ("CALL" : Str), ("GIVE" : Str), ("TAIL" : Str), ("RoomError" : Str), ("BadValue" : Str), ("BadNumber" : Str), ("BadTree" : Str), ("BadCode" : Str), ("Misfit" : Str), ("fixed" : Str), ("ENTER" : Str), ("MATCH" : Str), ("OPEN" : Str), ("LEAVE" : Str), ("LENGTHS" : Str), ("MOST_CELLS" : Str), ("MOST_FRAME" : Str), ("MOST_FIELDS" : Str), ("MOST_REGISTER" : Str), ("MOST_NODES" : Str), ("MOST_PLACES" : Str), ("is_node" : Str), ("are_nodes" : Str), ("is_register" : Str), ("are_registers" : Str), ("are_ways" : Str), ("is_making" : Str), ("is_instruction" : Str), ("Code" : Str), ("need_code" : Str), ("MOST_ROWS" : Str), ("MOST_ROOM" : Str), ("MOST_LOADED" : Str), ("MOST_STEPS" : Str), ("RUNS" : Str), ("DONE" : Str), ("FULL" : Str), ("STANDS" : Str), ("Fault" : Str), ("are_rows_of" : Str), ("many_nodes" : Str), ("Cells" : Str), ("Turn" : Str), ("Machine" : Str), ("_law_pen" : Str), ("_law_draw" : Str), ("_law_pick" : Str)]
theorem runF (w : World) : HandSHeadRun.RunEq RR (PySem.W.view RR.prog [63]) hkL obL 8000 looseL (w.withFollow "special-get-raises" false) := by
  intro os
  kernel_rfl
theorem runT (w : World) : HandSHeadRun.RunEq RR (PySem.W.view RR.prog [63]) hkL obL 8000 looseL (w.withFollow "special-get-raises" true) := by
  intro os
  kernel_rfl
theorem runL (w : World) : HandSHeadRun.RunEq RR (PySem.W.view RR.prog [63]) hkL obL 8000 looseL w :=
  PySem.W.byRow2 "special-get-raises" (P := fun w => HandSHeadRun.RunEq RR (PySem.W.view RR.prog [63]) hkL obL 8000 looseL w) runF runT w
end K71
end

section
/-! K71ZD: the facts of the head, the theorem. -/
namespace K71
open PySem PySem.Spec PyProof.Rows L2 DL SH
theorem factsL {P : Program} {w : World} {K : PySem.W.Frag} {h h0 : Heap} {mg : Str → Option Value} {f : Addr} (X : K.In h) (G : h.Ns mainGlobals mg) (hfa : mg ("law" : Str) = some (.ref f)) (cx : He.SaysX faL fnL tsL [] exL w h0 K) :
    ∃ fd : FuncData, (∀ (s : Shared) (v : Value), BindsTo s fd ⟨[v], []⟩ [("script", v)]) ∧ ∀ base : Heap, K.In base → base.Ns mainGlobals mg → FnG P w K mg base 10 f fd ["script"] spTrue := by
  have c := cx.t.d
  obtain ⟨fd_is_integer, F_is_integer⟩ := c.def_ 0 (d := d_is_integer) rfl
  have m_is_integer := He.glo_ok X G (c.fact 0 (f := .glo "is_integer") rfl)
  obtain ⟨fd_is_within, F_is_within⟩ := c.def_ 1 (d := d_is_within) rfl
  have m_is_within := He.glo_ok X G (c.fact 1 (f := .glo "is_within") rfl)
  obtain ⟨fd_is_listed, F_is_listed⟩ := c.def_ 2 (d := d_is_listed) rfl
  have m_is_listed := He.glo_ok X G (c.fact 2 (f := .glo "is_listed") rfl)
  obtain ⟨fd_is_row, F_is_row⟩ := c.def_ 3 (d := d_is_row) rfl
  have m_is_row := He.glo_ok X G (c.fact 3 (f := .glo "is_row") rfl)
  obtain ⟨fd_is_name, F_is_name⟩ := c.def_ 4 (d := d_is_name) rfl
  have m_is_name := He.glo_ok X G (c.fact 4 (f := .glo "is_name") rfl)
  obtain ⟨fd_are_unlike, F_are_unlike⟩ := c.def_ 5 (d := d_are_unlike) rfl
  have m_are_unlike := He.glo_ok X G (c.fact 5 (f := .glo "are_unlike") rfl)
  obtain ⟨fd_fixed, F_fixed⟩ := c.def_ 6 (d := d_fixed) rfl
  have m_fixed := He.glo_ok X G (c.fact 6 (f := .glo "fixed") rfl)
  obtain ⟨fd_is_node, F_is_node⟩ := c.def_ 7 (d := d_is_node) rfl
  have m_is_node := He.glo_ok X G (c.fact 7 (f := .glo "is_node") rfl)
  obtain ⟨fd_are_nodes, F_are_nodes⟩ := c.def_ 8 (d := d_are_nodes) rfl
  have m_are_nodes := He.glo_ok X G (c.fact 8 (f := .glo "are_nodes") rfl)
  obtain ⟨fd_is_register, F_is_register⟩ := c.def_ 9 (d := d_is_register) rfl
  have m_is_register := He.glo_ok X G (c.fact 9 (f := .glo "is_register") rfl)
  obtain ⟨fd_are_registers, F_are_registers⟩ := c.def_ 10 (d := d_are_registers) rfl
  have m_are_registers := He.glo_ok X G (c.fact 10 (f := .glo "are_registers") rfl)
  obtain ⟨fd_is_making, F_is_making⟩ := c.def_ 11 (d := d_is_making) rfl
  have m_is_making := He.glo_ok X G (c.fact 11 (f := .glo "is_making") rfl)
  obtain ⟨fd_is_instruction, F_is_instruction⟩ := c.def_ 12 (d := d_is_instruction) rfl
  have m_is_instruction := He.glo_ok X G (c.fact 12 (f := .glo "is_instruction") rfl)
  obtain ⟨fd_need_code, F_need_code⟩ := c.def_ 13 (d := d_need_code) rfl
  have m_need_code := He.glo_ok X G (c.fact 13 (f := .glo "need_code") rfl)
  obtain ⟨fd_are_rows_of, F_are_rows_of⟩ := c.def_ 14 (d := d_are_rows_of) rfl
  have m_are_rows_of := He.glo_ok X G (c.fact 14 (f := .glo "are_rows_of") rfl)
  obtain ⟨fd_many_nodes, F_many_nodes⟩ := c.def_ 15 (d := d_many_nodes) rfl
  have m_many_nodes := He.glo_ok X G (c.fact 15 (f := .glo "many_nodes") rfl)
  obtain ⟨fd_law_pen, F_law_pen⟩ := c.def_ 16 (d := d_law_pen) rfl
  have m_law_pen := He.glo_ok X G (c.fact 16 (f := .glo "_law_pen") rfl)
  obtain ⟨fd_law_draw, F_law_draw⟩ := c.def_ 17 (d := d_law_draw) rfl
  have m_law_draw := He.glo_ok X G (c.fact 17 (f := .glo "_law_draw") rfl)
  obtain ⟨fd_law_pick, F_law_pick⟩ := c.def_ 18 (d := d_law_pick) rfl
  have m_law_pick := He.glo_ok X G (c.fact 18 (f := .glo "_law_pick") rfl)
  obtain ⟨fd_law, F_law⟩ := c.def_ 19 (d := d_law) rfl
  have m_law := He.glo_ok X G (c.fact 19 (f := .glo "law") rfl)
  obtain ⟨fd_Code_init, F_Code_init⟩ := c.def_ 20 (d := d_Code_init) rfl
  obtain ⟨fd_Cells_init, F_Cells_init⟩ := c.def_ 21 (d := d_Cells_init) rfl
  obtain ⟨fd_Cells_take, F_Cells_take⟩ := c.def_ 22 (d := d_Cells_take) rfl
  have M_Cells_take := He.meth_ok (c.fact 87 (f := .meth "Cells" "take") rfl)
  obtain ⟨fd_Cells_give_back, F_Cells_give_back⟩ := c.def_ 23 (d := d_Cells_give_back) rfl
  have M_Cells_give_back := He.meth_ok (c.fact 88 (f := .meth "Cells" "give_back") rfl)
  obtain ⟨fd_Turn_init, F_Turn_init⟩ := c.def_ 24 (d := d_Turn_init) rfl
  obtain ⟨fd_Turn_read, F_Turn_read⟩ := c.def_ 25 (d := d_Turn_read) rfl
  have M_Turn_read := He.meth_ok (c.fact 89 (f := .meth "Turn" "read") rfl)
  obtain ⟨fd_Turn_put, F_Turn_put⟩ := c.def_ 26 (d := d_Turn_put) rfl
  have M_Turn_put := He.meth_ok (c.fact 90 (f := .meth "Turn" "put") rfl)
  obtain ⟨fd_Turn_kept, F_Turn_kept⟩ := c.def_ 27 (d := d_Turn_kept) rfl
  have M_Turn_kept := He.meth_ok (c.fact 91 (f := .meth "Turn" "kept") rfl)
  obtain ⟨fd_Machine_init, F_Machine_init⟩ := c.def_ 28 (d := d_Machine_init) rfl
  obtain ⟨fd_Machine_loaded, F_Machine_loaded⟩ := c.def_ 29 (d := d_Machine_loaded) rfl
  have M_Machine_loaded := He.meth_ok (c.fact 92 (f := .meth "Machine" "loaded") rfl)
  obtain ⟨fd_Machine_node, F_Machine_node⟩ := c.def_ 30 (d := d_Machine_node) rfl
  have M_Machine_node := He.meth_ok (c.fact 93 (f := .meth "Machine" "node") rfl)
  obtain ⟨fd_Machine_taken, F_Machine_taken⟩ := c.def_ 31 (d := d_Machine_taken) rfl
  have M_Machine_taken := He.meth_ok (c.fact 94 (f := .meth "Machine" "taken") rfl)
  obtain ⟨fd_Machine_step, F_Machine_step⟩ := c.def_ 32 (d := d_Machine_step) rfl
  have M_Machine_step := He.meth_ok (c.fact 95 (f := .meth "Machine" "step") rfl)
  obtain ⟨fd_Machine_do, F_Machine_do⟩ := c.def_ 33 (d := d_Machine_do) rfl
  have M_Machine_do := He.meth_ok (c.fact 96 (f := .meth "Machine" "do") rfl)
  obtain ⟨fd_Machine_go_on, F_Machine_go_on⟩ := c.def_ 34 (d := d_Machine_go_on) rfl
  have M_Machine_go_on := He.meth_ok (c.fact 97 (f := .meth "Machine" "go_on") rfl)
  obtain ⟨fd_Machine_note, F_Machine_note⟩ := c.def_ 35 (d := d_Machine_note) rfl
  have M_Machine_note := He.meth_ok (c.fact 98 (f := .meth "Machine" "note") rfl)
  obtain ⟨fd_Machine_enter, F_Machine_enter⟩ := c.def_ 36 (d := d_Machine_enter) rfl
  have M_Machine_enter := He.meth_ok (c.fact 99 (f := .meth "Machine" "enter") rfl)
  obtain ⟨fd_Machine_need_behind, F_Machine_need_behind⟩ := c.def_ 37 (d := d_Machine_need_behind) rfl
  have M_Machine_need_behind := He.meth_ok (c.fact 100 (f := .meth "Machine" "need_behind") rfl)
  obtain ⟨fd_Machine_apart, F_Machine_apart⟩ := c.def_ 38 (d := d_Machine_apart) rfl
  have M_Machine_apart := He.meth_ok (c.fact 101 (f := .meth "Machine" "apart") rfl)
  obtain ⟨fd_Machine_make, F_Machine_make⟩ := c.def_ 39 (d := d_Machine_make) rfl
  have M_Machine_make := He.meth_ok (c.fact 102 (f := .meth "Machine" "make") rfl)
  obtain ⟨fd_Machine_leave, F_Machine_leave⟩ := c.def_ 40 (d := d_Machine_leave) rfl
  have M_Machine_leave := He.meth_ok (c.fact 103 (f := .meth "Machine" "leave") rfl)
  obtain ⟨fd_Machine_cells, F_Machine_cells⟩ := c.def_ 41 (d := d_Machine_cells) rfl
  have M_Machine_cells := He.meth_ok (c.fact 104 (f := .meth "Machine" "cells") rfl)
  obtain ⟨fd_Machine_held, F_Machine_held⟩ := c.def_ 42 (d := d_Machine_held) rfl
  have M_Machine_held := He.meth_ok (c.fact 105 (f := .meth "Machine" "held") rfl)
  have g_Code := He.glo_ok X G (c.fact 55 (f := .glo "Code") rfl)
  have M_Code_init := He.mkr_ok (c.fact 57 (f := .mkr "Code") rfl)
  have C_Code : ClC K (He.ga K "Code") ["nodes", "known", "instructions", "start"] := ⟨He.cls_ok (c.fact 56 (f := .cls "Code") rfl), fun f hf => by
    simp only [List.mem_cons, List.not_mem_nil, or_false] at hf
    rcases hf with rfl | rfl | rfl | rfl
    · exact He.noat_ok (c.fact 58 (f := .noat "Code" "nodes") rfl)
    · exact He.noat_ok (c.fact 59 (f := .noat "Code" "known") rfl)
    · exact He.noat_ok (c.fact 60 (f := .noat "Code" "instructions") rfl)
    · exact He.noat_ok (c.fact 61 (f := .noat "Code" "start") rfl)⟩
  have g_Cells := He.glo_ok X G (c.fact 62 (f := .glo "Cells") rfl)
  have M_Cells_init := He.mkr_ok (c.fact 64 (f := .mkr "Cells") rfl)
  have C_Cells : ClC K (He.ga K "Cells") ["free"] := ⟨He.cls_ok (c.fact 63 (f := .cls "Cells") rfl), fun f hf => by
    simp only [List.mem_cons, List.not_mem_nil, or_false] at hf
    rcases hf with rfl
    · exact He.noat_ok (c.fact 65 (f := .noat "Cells" "free") rfl)⟩
  have g_Turn := He.glo_ok X G (c.fact 66 (f := .glo "Turn") rfl)
  have M_Turn_init := He.mkr_ok (c.fact 68 (f := .mkr "Turn") rfl)
  have C_Turn : ClC K (He.ga K "Turn") ["registers", "frame", "back", "register"] := ⟨He.cls_ok (c.fact 67 (f := .cls "Turn") rfl), fun f hf => by
    simp only [List.mem_cons, List.not_mem_nil, or_false] at hf
    rcases hf with rfl | rfl | rfl | rfl
    · exact He.noat_ok (c.fact 69 (f := .noat "Turn" "registers") rfl)
    · exact He.noat_ok (c.fact 70 (f := .noat "Turn" "frame") rfl)
    · exact He.noat_ok (c.fact 71 (f := .noat "Turn" "back") rfl)
    · exact He.noat_ok (c.fact 72 (f := .noat "Turn" "register") rfl)⟩
  have g_Machine := He.glo_ok X G (c.fact 73 (f := .glo "Machine") rfl)
  have M_Machine_init := He.mkr_ok (c.fact 75 (f := .mkr "Machine") rfl)
  have C_Machine : ClC K (He.ga K "Machine") ["code", "room", "free", "nodes", "made", "place", "status", "why", "given", "line", "moments"] := ⟨He.cls_ok (c.fact 74 (f := .cls "Machine") rfl), fun f hf => by
    simp only [List.mem_cons, List.not_mem_nil, or_false] at hf
    rcases hf with rfl | rfl | rfl | rfl | rfl | rfl | rfl | rfl | rfl | rfl | rfl
    · exact He.noat_ok (c.fact 76 (f := .noat "Machine" "code") rfl)
    · exact He.noat_ok (c.fact 77 (f := .noat "Machine" "room") rfl)
    · exact He.noat_ok (c.fact 78 (f := .noat "Machine" "free") rfl)
    · exact He.noat_ok (c.fact 79 (f := .noat "Machine" "nodes") rfl)
    · exact He.noat_ok (c.fact 80 (f := .noat "Machine" "made") rfl)
    · exact He.noat_ok (c.fact 81 (f := .noat "Machine" "place") rfl)
    · exact He.noat_ok (c.fact 82 (f := .noat "Machine" "status") rfl)
    · exact He.noat_ok (c.fact 83 (f := .noat "Machine" "why") rfl)
    · exact He.noat_ok (c.fact 84 (f := .noat "Machine" "given") rfl)
    · exact He.noat_ok (c.fact 85 (f := .noat "Machine" "line") rfl)
    · exact He.noat_ok (c.fact 86 (f := .noat "Machine" "moments") rfl)⟩
  have z_isinstance := He.free_ok X G (c.fact 20 (f := .free "isinstance") rfl)
  have z_list := He.free_ok X G (c.fact 21 (f := .free "list") rfl)
  have z_tuple := He.free_ok X G (c.fact 22 (f := .free "tuple") rfl)
  have z_str := He.free_ok X G (c.fact 23 (f := .free "str") rfl)
  have z_bool := He.free_ok X G (c.fact 24 (f := .free "bool") rfl)
  have z_dict := He.free_ok X G (c.fact 25 (f := .free "dict") rfl)
  have z_len := He.free_ok X G (c.fact 26 (f := .free "len") rfl)
  have z_all := He.free_ok X G (c.fact 27 (f := .free "all") rfl)
  have z_sum := He.free_ok X G (c.fact 28 (f := .free "sum") rfl)
  have z_range := He.free_ok X G (c.fact 29 (f := .free "range") rfl)
  have z_int := He.free_ok X G (c.fact 30 (f := .free "int") rfl)
  have z_abs := He.free_ok X G (c.fact 31 (f := .free "abs") rfl)
  have z_enumerate := He.free_ok X G (c.fact 32 (f := .free "enumerate") rfl)
  have z_zip := He.free_ok X G (c.fact 33 (f := .free "zip") rfl)
  have z_sorted := He.free_ok X G (c.fact 34 (f := .free "sorted") rfl)
  have q_LETTERS := He.str_ok X G (c.fact 35 (f := .str "LETTERS" lettersS) rfl)
  have q_MOST_NAME := He.int_ok X G (c.fact 36 (f := .int "MOST_NAME" 8) rfl)
  have q_MAKE := He.str_ok X G (c.fact 37 (f := .str "MAKE" "make") rfl)
  have q_CALL := He.str_ok X G (c.fact 38 (f := .str "CALL" "call") rfl)
  have q_GIVE := He.str_ok X G (c.fact 39 (f := .str "GIVE" "give") rfl)
  have q_TAIL := He.str_ok X G (c.fact 40 (f := .str "TAIL" "tail") rfl)
  have q_ENTER := He.str_ok X G (c.fact 41 (f := .str "ENTER" "enter") rfl)
  have q_MATCH := He.str_ok X G (c.fact 42 (f := .str "MATCH" "match") rfl)
  have q_OPEN := He.str_ok X G (c.fact 43 (f := .str "OPEN" "open") rfl)
  have q_LEAVE := He.str_ok X G (c.fact 44 (f := .str "LEAVE" "leave") rfl)
  have q_MOST_CELLS := He.int_ok X G (c.fact 45 (f := .int "MOST_CELLS" 9) rfl)
  have q_MOST_FRAME := He.int_ok X G (c.fact 46 (f := .int "MOST_FRAME" 18) rfl)
  have q_MOST_FIELDS := He.int_ok X G (c.fact 47 (f := .int "MOST_FIELDS" 4) rfl)
  have q_MOST_REGISTER := He.int_ok X G (c.fact 48 (f := .int "MOST_REGISTER" 31) rfl)
  have q_MOST_NODES := He.int_ok X G (c.fact 49 (f := .int "MOST_NODES" 24) rfl)
  have q_MOST_PLACES := He.int_ok X G (c.fact 50 (f := .int "MOST_PLACES" 4000) rfl)
  have q_MOST_ROWS := He.int_ok X G (c.fact 51 (f := .int "MOST_ROWS" 30000) rfl)
  have q_MOST_ROOM := He.int_ok X G (c.fact 52 (f := .int "MOST_ROOM" 100000) rfl)
  have q_MOST_LOADED := He.int_ok X G (c.fact 53 (f := .int "MOST_LOADED" 2000) rfl)
  have q_RUNS := He.str_ok X G (c.fact 54 (f := .str "RUNS" "runs") rfl)
  have g_LENGTHS := He.glo_ok X G (c.fact 106 (f := .glo "LENGTHS") rfl)
  have g_Fault := He.glo_ok X G (c.fact 107 (f := .glo "Fault") rfl)
  have e := hfa.symm.trans m_law
  cases e
  have T : Tx mg := ⟨z_isinstance, z_list, z_tuple, z_str, z_bool, z_dict, z_len, z_all, z_sum, z_range, z_int, z_abs, z_enumerate, z_zip, z_sorted⟩
  have TC : Tc mg := ⟨q_LETTERS, q_MOST_NAME, q_MAKE, q_CALL, q_GIVE, q_TAIL, q_ENTER, q_MATCH, q_OPEN, q_LEAVE, q_MOST_CELLS, q_MOST_FRAME, q_MOST_FIELDS, q_MOST_REGISTER, q_MOST_NODES, q_MOST_PLACES, q_MOST_ROWS, q_MOST_ROOM, q_MOST_LOADED, q_RUNS⟩
  obtain ⟨b1, b2⟩ := He.ba cx.more
  obtain ⟨b3, b4⟩ := He.ba b2
  obtain ⟨b5, b6⟩ := He.ba b4
  obtain ⟨b7, b8⟩ := He.ba b6
  obtain ⟨b9, b10⟩ := He.ba b8
  have ic : C8.InsC K (He.ga K "Code") := ⟨C_Code.cls, He.eqO_ok b3, He.eqO_ok b5, of_decide_eq_true b7, of_decide_eq_true b9, of_decide_eq_true b10⟩
  have lv : ∀ (x : Str) (n : Int), (x, He.Dv.int n) ∈ lvL → ∃ t, PySem.W.nsIn K (He.ga K "LENGTHS") x = some (some (.int n t)) := fun x n hm => by
    obtain ⟨u, h1, h2⟩ := He.valsB_ok b1 hm
    obtain ⟨t, e⟩ := (show ∃ t, u = Value.int n t from h2)
    subst e
    exact ⟨t, h1⟩
  have TL : Tl K w mg (He.ga K "LENGTHS") := ⟨g_LENGTHS, cx.t.tab 0, lv "make" 4 (by simp [lvL]), lv "open" 3 (by simp [lvL]), lv "enter" 2 (by simp [lvL]), lv "leave" 2 (by simp [lvL]), lv "give" 2 (by simp [lvL])⟩
  let ca : CA := ⟨He.ga K "Code", He.ga K "Cells", He.ga K "Turn", He.ga K "Machine"⟩
  have cl : ClA K ca := ⟨C_Code, C_Cells, C_Turn, C_Machine⟩
  have b := FunD.bindsA (ps := ["script"]) F_law fun _ _ _ _ _ _ us hl => match us, hl with | [_], _ => rfl
  refine ⟨fd_law, fun s v => b s [v] rfl, fun base _ _ => ?_⟩
  have k1 : CalInteger P w K mg base := ok_integer F_is_integer m_is_integer T
  have k2 : CalWithin P w K mg base := ok_within F_is_within m_is_within T k1
  have k3 : CalListed P w K mg base := ok_listed F_is_listed m_is_listed T
  have k4 : CalRow P w K mg base := ok_row F_is_row m_is_row T k3
  have k5 : CalName P w K mg base := ok_name F_is_name m_is_name T TC
  have k6 : CalUnlike P w K mg base := ok_unlike F_are_unlike m_are_unlike T
  have k7 : ∀ n, CalFix P w K mg base n := ok_fix F_fixed m_fixed T
  have k8 : CalNode P w K mg base := ok_node F_is_node m_is_node TC k4 k5 k2
  have k9 : CalNodes P w K mg base := ok_nodes F_are_nodes m_are_nodes T TC k4 k8 k6
  have k10 : CalReg P w K mg base := ok_reg F_is_register m_is_register TC k2
  have k11 : CalRegs P w K mg base := ok_regs F_are_registers m_are_registers T TC k4 k6
  have k12 : CalMaking P w K mg base := ok_making F_is_making m_is_making T k10 k11
  have k13 : CalInstr P w K mg base := ok_instr F_is_instruction m_is_instruction T TC TL k4 k2 k10 k11 k12
  have k14 : CalCode P w K mg base ca.code := ok_codeInit F_Code_init M_Code_init g_Code C_Code T TC k9 k7 k3 k13 k2
  have k15 : CalNeed P w K mg base ca.code := ok_need F_need_code m_need_code T g_Code ic
  have k16 : CalRowsOf P w K mg base ca.code := ok_rowsof F_are_rows_of m_are_rows_of T TC C_Code
  have k17 : CalMany P w K mg base := ok_many F_many_nodes m_many_nodes T
  have k18 : CalCells P w K mg base ca.cells := ok_cellsInit F_Cells_init M_Cells_init g_Cells C_Cells T
  have k19 : CalTake P w K mg base ca.cells := ok_take F_Cells_take M_Cells_take C_Cells T
  have k20 : CalGive P w K mg base ca.cells := ok_give F_Cells_give_back M_Cells_give_back C_Cells T
  have k21 : CalTurn P w K mg base ca.turn := ok_turnInit F_Turn_init M_Turn_init g_Turn C_Turn T
  have k22 : CalRead P w K mg base ca.turn := ok_read F_Turn_read M_Turn_read C_Turn T
  have k23 : CalPut P w K mg base ca.turn := ok_put F_Turn_put M_Turn_put C_Turn T
  have k24 : CalKept P w K mg base ca.turn := ok_kept F_Turn_kept M_Turn_kept C_Turn T k21
  have k25 : CalTaken P w K mg base ca := ok_taken F_Machine_taken M_Machine_taken cl T
  have k26 : CalMNode P w K mg base ca := ok_mnode F_Machine_node M_Machine_node cl T k19
  have k27 : CalLoaded P w K mg base ca := ok_loaded F_Machine_loaded M_Machine_loaded cl T k26
  have k28 : CalInit P w K mg base ca := ok_init F_Machine_init M_Machine_init g_Machine cl T TC k15 k2 k16 k17 k18 k7 k27 k25 k21
  have k29 : CalGo P w K mg base ca := ok_go F_Machine_go_on M_Machine_go_on cl T
  have k30 : CalNote P w K mg base ca := ok_note F_Machine_note M_Machine_note cl T k29 k25
  have k31 : CalBehind P w K mg base ca := ok_behind F_Machine_need_behind M_Machine_need_behind cl T
  have k32 : CalEnter P w K mg base ca := ok_enter F_Machine_enter M_Machine_enter cl T k31 k19 k30
  have k33 : CalLeave P w K mg base ca := ok_leave F_Machine_leave M_Machine_leave cl T k31 k20 k30
  have k34 : CalMake P w K mg base ca := ok_make F_Machine_make M_Machine_make cl T k31 k26 k23 k30
  have k35 : CalApart P w K mg base ca := ok_apart F_Machine_apart M_Machine_apart cl T k22 k31 k20 k30
  have k36 : CalDo P w K mg base ca := ok_do F_Machine_do M_Machine_do cl TC k32 k35 k34 k33
  have k37 : CalStep P w K mg base ca := ok_step F_Machine_step M_Machine_step cl TC g_Fault k24 k36
  have k38 : CalSeen P w K mg base ca := ok_cells F_Machine_cells M_Machine_cells cl T
  have k39 : CalHeld P w K mg base ca := ok_held F_Machine_held M_Machine_held cl T
  have p1 : CalPen P w K mg base := ok_pen F_law_pen m_law_pen T
  have p2 : CalDraw P w K mg base := ok_draw F_law_draw m_law_draw T
  have p3 : CalPick P w K mg base := ok_pick F_law_pick m_law_pick T p2
  exact fn_law F_law ⟨cl, k14, k28, k37, k38, k25, k39, p1, p2, p3⟩ T
end K71
open PySem PySem.W PySem.Calls PyProof.Rows
theorem PySem.Challenge.cw_roomforall_k71_which_cells_are_taken_holds : PySem.Challenge.rw_roomforall_k71_which_cells_are_taken.Holds := by
  w_on; o_law
  refine HandSHeadRun.head_any (r := OpenLaw.row PySem.Challenge.rw_roomforall_k71_which_cells_are_taken) (q := view (OpenLaw.row PySem.Challenge.rw_roomforall_k71_which_cells_are_taken).prog [63]) (H := K71.hkL) (ob := K71.obL) (M := 8000) (loose := K71.looseL) (d := HandSHeadRun.topDef (OpenLaw.row PySem.Challenge.rw_roomforall_k71_which_cells_are_taken).prog 63) (kwd := [])
    K71.obL_eq (by kernel_rfl) (fun s => by kernel_rfl) K71.runL (by kernel_rfl) (by kernel_rfl) (by kernel_rfl) (by rfl) (by first | assumption | decide +kernel) (by decide +kernel) ⟨rfl, rfl, rfl, rfl, rfl, by decide +kernel⟩ ?hw ?hc
  case hw => w_witness2
  case hc =>
    refine Att.attach_call (n := 63) rfl (by kernel_rfl) fun w s0 s1 mg mb fa o pm cd doc a vs ns G Y ho hd hcd hmg hobj hints hlen hg => ?_
    obtain ⟨K, KX, c⟩ := Y
    have hm : mg ("law" : PySem.Str) = some (.ref fa) := by
      have e : (HandSHeadRun.topDef (OpenLaw.row PySem.Challenge.rw_roomforall_k71_which_cells_are_taken).prog 63).name = ("law" : PySem.Str) := by kernel_rfl
      rw [← e]
      exact hmg
    obtain ⟨fd, hb, hF⟩ := K71.factsL (P := (PySem.Challenge.rw_roomforall_k71_which_cells_are_taken).prog) (w := w) KX G.T.g hm c
    exact SH.law_callG KX G.T.g G.T.b G.T.builtins G.T.nolimit hg hobj hints (Nat.le_trans hlen (by decide)) ⟨rfl, by decide, by decide⟩ hF hb
end
