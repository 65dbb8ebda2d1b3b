import PyProof.Rows.All
import Wide.All
import OpenK.AllK
import Wide.FinOn
import HandS.ForMost
import HandS.IsInst
import HandS.Defaults
import HandS.Deep
import HandS.TupMul
import HandS.Ends
import HandS.HeadEnd
import HandS.Exc
import HandS.Style
import KE.KStateDown
import Lean
import HandS.Head0
import HandS.Head1
import HandS.Head2
import HandS.HeadHook1
import HandS.HeadHook2
import PySem.Challenge.RW_roomforall_k04_forms_of_steps_ends_and_b
set_option Elab.async false
set_option linter.all false
set_option maxRecDepth 100000
set_option maxHeartbeats 0
section
/-! DL0: data-level logic over the hand layer: data in a frozen heap, slots, the relation, judgements. -/
namespace DL
open PySem PySem.Spec PyProof.Rows L2

abbrev D := PyData
def kD : Key → D
  | .inl i => .int i
  | .inr x => .str x
mutual
inductive Dt (K : PySem.W.Frag) (G : Hp) : V → D → Prop
  | non : Dt K G .non .none
  | bl (b : Bool) : Dt K G (.bl b) (.bool b)
  | int (i : Int) : Dt K G (.int i) (.int i)
  | str (x : Str) : Dt K G (.str x) (.str x)
  | lst {a : Addr} {xs : List V} {ds : List D} : SqL K G a xs → DtAll K G xs ds → Dt K G (.ref a) (.list ds)
  | tup {a : Addr} {xs : List V} {ds : List D} : SqT K G a xs → DtAll K G xs ds → Dt K G (.ref a) (.tuple ds)
  | dct {a : Addr} {kvs : List (Key × V)} {ds : List (D × D)} : G a = some (.dK kvs) → DtKV K G kvs ds → Dt K G (.ref a) (.dict ds)
inductive DtAll (K : PySem.W.Frag) (G : Hp) : List V → List D → Prop
  | nil : DtAll K G [] []
  | cons {v : V} {vs : List V} {d : D} {ds : List D} : Dt K G v d → DtAll K G vs ds → DtAll K G (v :: vs) (d :: ds)
inductive DtKV (K : PySem.W.Frag) (G : Hp) : List (Key × V) → List (D × D) → Prop
  | nil : DtKV K G [] []
  | cons {k : Key} {v : V} {kvs : List (Key × V)} {d : D} {ds : List (D × D)} : Dt K G v d → DtKV K G kvs ds → DtKV K G ((k, v) :: kvs) ((kD k, d) :: ds)
end
theorem Same.seqT {K : PySem.W.Frag} {H H' : Hp} {a : Addr} {xs : List V} (e : Same H H') (h : SqT K H a xs) : SqT K H' a xs := by
  rcases h with (h | ⟨o, h⟩) | h
  · exact .inl (.inl (e _ _ h))
  · exact .inl (.inr ⟨o, e _ _ h⟩)
  · exact .inr h
section
variable {K : PySem.W.Frag} {G G' H : Hp}
mutual
theorem Dt.mono (e : Same G G') : ∀ (d : D) (v : V), Dt K G v d → Dt K G' v d
  | .none, _, h => by cases h; exact .non
  | .bool b, _, h => by cases h; exact .bl b
  | .int i, _, h => by cases h; exact .int i
  | .str x, _, h => by cases h; exact .str x
  | .list ds, _, h => by
    cases h with
    | lst h1 h2 => exact .lst (Same.seq e h1) (DtAll.mono e ds _ h2)
  | .tuple ds, _, h => by
    cases h with
    | tup h1 h2 => exact .tup (Same.seqT e h1) (DtAll.mono e ds _ h2)
  | .dict ds, _, h => by
    cases h with
    | dct h1 h2 => exact .dct (e _ _ h1) (DtKV.mono e ds _ h2)
theorem DtAll.mono (e : Same G G') : ∀ (ds : List D) (vs : List V), DtAll K G vs ds → DtAll K G' vs ds
  | [], _, h => by cases h; exact .nil
  | d :: ds, _, h => by
    cases h with
    | cons h1 h2 => exact .cons (Dt.mono e d _ h1) (DtAll.mono e ds _ h2)
theorem DtKV.mono (e : Same G G') : ∀ (ds : List (D × D)) (vs : List (Key × V)), DtKV K G vs ds → DtKV K G' vs ds
  | [], _, h => by cases h; exact .nil
  | (k, d) :: ds, _, h => by
    cases h with
    | cons h1 h2 => exact .cons (Dt.mono e d _ h1) (DtKV.mono e ds _ h2)
end
theorem DtAll.length : ∀ {vs : List V} {ds : List D}, DtAll K G vs ds → vs.length = ds.length
  | [], [], _ => rfl
  | [], _ :: _, h => by cases h
  | _ :: _, [], h => by cases h
  | v :: vs, d :: ds, h => by
    cases h with
    | cons h1 h2 => simp [DtAll.length h2]
theorem DtAll.get : ∀ {vs : List V} {ds : List D} {i : Nat} {d : D}, DtAll K G vs ds → ds[i]? = some d → ∃ v, vs[i]? = some v ∧ Dt K G v d
  | [], [], i, d, _, e => by simp at e
  | [], _ :: _, _, _, h, _ => by cases h
  | _ :: _, [], _, _, h, _ => by cases h
  | v :: vs, d0 :: ds, 0, d, h, e => by
    cases h with
    | cons h1 h2 =>
      simp at e
      subst e
      exact ⟨v, rfl, h1⟩
  | v :: vs, d0 :: ds, i + 1, d, h, e => by
    cases h with
    | cons h1 h2 =>
      obtain ⟨w, e1, e2⟩ := DtAll.get (i := i) h2 (by simpa using e)
      exact ⟨w, by simpa using e1, e2⟩
theorem DtAll.getV : ∀ {vs : List V} {ds : List D} {i : Nat} {v : V}, DtAll K G vs ds → vs[i]? = some v → ∃ d, ds[i]? = some d ∧ Dt K G v d
  | [], [], i, d, _, e => by simp at e
  | [], _ :: _, _, _, h, _ => by cases h
  | _ :: _, [], _, _, h, _ => by cases h
  | v :: vs, d0 :: ds, 0, w, h, e => by
    cases h with
    | cons h1 h2 =>
      simp at e
      subst e
      exact ⟨d0, rfl, h1⟩
  | v :: vs, d0 :: ds, i + 1, w, h, e => by
    cases h with
    | cons h1 h2 =>
      obtain ⟨w, e1, e2⟩ := DtAll.getV (i := i) h2 (by simpa using e)
      exact ⟨w, by simpa using e1, e2⟩
theorem DtAll.append : ∀ {vs us : List V} {ds es : List D}, DtAll K G vs ds → DtAll K G us es → DtAll K G (vs ++ us) (ds ++ es)
  | [], _, [], _, _, h => h
  | [], _, _ :: _, _, h, _ => by cases h
  | _ :: _, _, [], _, h, _ => by cases h
  | v :: vs, us, d :: ds, es, h, k => by
    cases h with
    | cons h1 h2 => exact .cons h1 (DtAll.append h2 k)
theorem DtAll.take : ∀ {vs : List V} {ds : List D} (n : Nat), DtAll K G vs ds → DtAll K G (vs.take n) (ds.take n)
  | _, _, 0, _ => by simp only [List.take_zero]; exact .nil
  | [], [], _ + 1, _ => .nil
  | [], _ :: _, _, h => by cases h
  | _ :: _, [], _, h => by cases h
  | v :: vs, d :: ds, n + 1, h => by
    cases h with
    | cons h1 h2 => exact .cons h1 (DtAll.take n h2)
theorem DtAll.drop : ∀ {vs : List V} {ds : List D} (n : Nat), DtAll K G vs ds → DtAll K G (vs.drop n) (ds.drop n)
  | _, _, 0, h => h
  | [], [], _ + 1, _ => .nil
  | [], _ :: _, _, h => by cases h
  | _ :: _, [], _, h => by cases h
  | v :: vs, d :: ds, n + 1, h => by
    cases h with
    | cons h1 h2 => exact DtAll.drop n h2
theorem DtAll.set : ∀ {vs : List V} {ds : List D} {w : V} {e : D} (n : Nat), DtAll K G vs ds → Dt K G w e → DtAll K G (vs.set n w) (ds.set n e)
  | [], [], _, _, _, _, _ => .nil
  | [], _ :: _, _, _, _, h, _ => by cases h
  | _ :: _, [], _, _, _, h, _ => by cases h
  | v :: vs, d :: ds, w, e, 0, h, k => by
    cases h with
    | cons h1 h2 => exact .cons k h2
  | v :: vs, d :: ds, w, e, n + 1, h, k => by
    cases h with
    | cons h1 h2 => exact .cons h1 (DtAll.set n h2 k)
theorem DtAll.rep {vs : List V} {ds : List D} (h : DtAll K G vs ds) : ∀ n : Nat, DtAll K G (List.replicate n vs).flatten (List.replicate n ds).flatten
  | 0 => .nil
  | n + 1 => by
    rw [List.replicate_succ, List.replicate_succ, List.flatten_cons, List.flatten_cons]
    exact h.append (DtAll.rep h n)
theorem DtAll.bools : ∀ {vs : List V} {bs : List Bool}, DtAll K G vs (bs.map PyData.bool) → vs = bs.map V.bl
  | [], [], _ => rfl
  | [], _ :: _, h => by cases h
  | _ :: _, [], h => by cases h
  | v :: vs, b :: bs, h => by
    cases h with
    | cons h1 h2 =>
      cases h1
      rw [DtAll.bools h2]
      rfl
theorem DtAll.ints : ∀ {vs : List V} {bs : List Int}, DtAll K G vs (bs.map PyData.int) → vs = bs.map V.int
  | [], [], _ => rfl
  | [], _ :: _, h => by cases h
  | _ :: _, [], h => by cases h
  | v :: vs, b :: bs, h => by
    cases h with
    | cons h1 h2 =>
      cases h1
      rw [DtAll.ints h2]
      rfl
/-! the library relation for data without dicts -/
mutual
theorem Dt.dp : ∀ (d : D) (v : V), d.canLay0 = true → Dt K G v d → Dp K G v d
  | .none, _, _, h => by cases h; exact .non
  | .bool b, _, _, h => by cases h; exact .bl b
  | .int i, _, _, h => by cases h; exact .int i
  | .str x, _, _, h => by cases h; exact .str x
  | .list ds, _, c, h => by
    cases h with
    | lst h1 h2 => exact .lst h1 (DtAll.dp ds _ (by simpa [PyData.canLay0] using c) h2)
  | .tuple ds, _, c, h => by
    cases h with
    | tup h1 h2 => exact .tup h1 (DtAll.dp ds _ (by simpa [PyData.canLay0] using c) h2)
  | .dict ds, _, c, h => by simp [PyData.canLay0] at c
theorem DtAll.dp : ∀ (ds : List D) (vs : List V), PyData.canLayAll0 ds = true → DtAll K G vs ds → DpAll K G vs ds
  | [], _, _, h => by cases h; exact .nil
  | d :: ds, _, c, h => by
    have c' : d.canLay0 = true ∧ PyData.canLayAll0 ds = true := by simpa [PyData.canLayAll0] using c
    cases h with
    | cons h1 h2 => exact .cons (Dt.dp d _ c'.1 h1) (DtAll.dp ds _ c'.2 h2)
end
end
end DL
end

section
/-! DL1: slots, the relation, judgements. -/
namespace DL
open PySem PySem.Spec PyProof.Rows L2

/-- what is known of a pen: its cells, place, great one -/
abbrev PB := List Int → Int → Int → Prop
inductive Sl where
  | dat (d : D)
  | own (xs : List D)
  | pen (p : Addr) (b : PB)
  | und
/-- the pen: a list [cells, place, great] at p; what is known of them -/
def PenAt (K : PySem.W.Frag) (G H : Hp) (p : Addr) (b : PB) : Prop :=
  ∃ (c : Addr) (ns : List Int) (n g : Int), H p = some (.lst [.ref c, .int n, .int g]) ∧ SqL K G c (ns.map V.int) ∧ b ns n g
def SlOk (K : PySem.W.Frag) (F G H : Hp) (o : Option (Option V)) : Sl → Prop
  | .dat d => ∃ v, o = some (some v) ∧ Dt K G v d
  | .own xs => ∃ a vs, o = some (some (.ref a)) ∧ G a = none ∧ F a = none ∧ H a = some (.lst vs) ∧ DtAll K G vs xs
  | .pen p b => o = some (some (.ref p)) ∧ G p = none ∧ F p = none ∧ PenAt K G H p b
  | .und => True
def Sl.isMut : Sl → Bool
  | .own _ => true
  | .pen _ _ => true
  | _ => false
structure Rel (K : PySem.W.Frag) (F : Hp) (σ : L2.St) (G H : Hp) (δ : List Sl) : Prop where
  len : σ.length = δ.length
  ext : Same G H
  frm : ∀ a o, F a = some o → G a = none ∧ H a = some o
  slo : ∀ (i : Nat) (s : Sl), δ[i]? = some s → SlOk K F G H (σ[i]?) s
  apt : ∀ (i j : Nat) (s t : Sl) (a : Addr), δ[i]? = some s → δ[j]? = some t → s.isMut = true → t.isMut = true → σ[i]? = some (some (.ref a)) → σ[j]? = some (some (.ref a)) → i = j
section
variable {K : PySem.W.Frag} {F G H : Hp} {σ : L2.St} {δ : List Sl}
theorem SlOk.new {o : Option (Option V)} {s : Sl} {p : Addr} {u : HO} (h : SlOk K F G H o s) (e : Same G H) (hp : H p = none) : SlOk K F (upd G p u) (upd H p u) o s := by
  have gp : G p = none := Same.free e hp
  have sg : Same G (upd G p u) := fun b q r => by rw [upd_ne (ne_of_none r gp)]; exact r
  cases s with
  | dat d =>
    obtain ⟨v, h1, h2⟩ := h
    exact ⟨v, h1, Dt.mono sg _ _ h2⟩
  | own xs =>
    obtain ⟨a, vs, h1, h2, h3, h4, h5⟩ := h
    have n : a ≠ p := ne_of_none h4 hp
    exact ⟨a, vs, h1, by rw [upd_ne n]; exact h2, h3, by rw [upd_ne n]; exact h4, DtAll.mono sg _ _ h5⟩
  | pen a b =>
    obtain ⟨h1, h2, h3, c, ns, n, g, h4, h5, h6⟩ := h
    have na : a ≠ p := ne_of_none h4 hp
    exact ⟨h1, by rw [upd_ne na]; exact h2, h3, c, ns, n, g, by rw [upd_ne na]; exact h4, Same.seq sg h5, h6⟩
  | und => trivial
/-- a new object of frozen data -/
theorem Rel.new (r : Rel K F σ G H δ) {p : Addr} {u : HO} (hp : H p = none) : Rel K F σ (upd G p u) (upd H p u) δ where
  len := r.len
  ext := fun b o e => by
    by_cases hb : b = p
    · subst hb
      rw [upd_same] at e
      rw [upd_same]
      exact e
    · rw [upd_ne hb] at e
      rw [upd_ne hb]
      exact r.ext b o e
  frm := fun a o e => by
    obtain ⟨h1, h2⟩ := r.frm a o e
    have n : a ≠ p := ne_of_none h2 hp
    rw [upd_ne n, upd_ne n]
    exact ⟨h1, h2⟩
  slo := fun i s e => (r.slo i s e).new r.ext hp
  apt := r.apt
theorem same_new {p : Addr} {u : HO} (hp : G p = none) : Same G (upd G p u) := fun b q r => by rw [upd_ne (ne_of_none r hp)]; exact r
theorem Rel.gnone (r : Rel K F σ G H δ) {p : Addr} (hp : H p = none) : G p = none := Same.free r.ext hp
/-- a slot set to data -/
theorem Rel.set (r : Rel K F σ G H δ) {i : Nat} {v : V} {d : D} (h : Dt K G v d) : Rel K F (σ.set i (some v)) G H (δ.set i (.dat d)) where
  len := by rw [List.length_set, List.length_set]; exact r.len
  ext := r.ext
  frm := r.frm
  slo := fun j s e => by
    by_cases hj : i = j
    · subst hj
      rw [List.getElem?_set] at e
      rw [List.getElem?_set]
      by_cases hl : i < δ.length
      · simp only [hl, if_true, if_pos rfl] at e
        cases e
        have hl2 : i < σ.length := by rw [r.len]; exact hl
        simp only [hl2, if_true, if_pos rfl]
        exact ⟨v, rfl, h⟩
      · simp only [hl, if_false, if_pos rfl] at e
        cases e
    · rw [List.getElem?_set_ne hj] at e
      rw [List.getElem?_set_ne hj]
      exact r.slo j s e
  apt := fun a b s t p h1 h2 m1 m2 h3 h4 => by
    have na : i ≠ a := fun e => by
      subst e
      rw [List.getElem?_set] at h1
      split at h1
      · split at h1
        · cases h1; cases m1
        · cases h1
      · exact absurd rfl (by assumption)
    have nb : i ≠ b := fun e => by
      subst e
      rw [List.getElem?_set] at h2
      split at h2
      · split at h2
        · cases h2; cases m2
        · cases h2
      · exact absurd rfl (by assumption)
    rw [List.getElem?_set_ne na] at h1 h3
    rw [List.getElem?_set_ne nb] at h2 h4
    exact r.apt a b s t p h1 h2 m1 m2 h3 h4
/-- a slot that owns is frozen -/
theorem Rel.freeze (r : Rel K F σ G H δ) {i : Nat} {xs : List D} (e : δ[i]? = some (.own xs)) :
    ∃ a vs, σ[i]? = some (some (.ref a)) ∧ H a = some (.lst vs) ∧ G a = none ∧ F a = none ∧ DtAll K G vs xs ∧ Rel K F σ (upd G a (.lst vs)) H (δ.set i (.dat (.list xs))) := by
  obtain ⟨a, vs, h1, h2, h3, h4, h5⟩ := r.slo i _ e
  have sg : Same G (upd G a (.lst vs)) := same_new h2
  refine ⟨a, vs, h1, h4, h2, h3, h5, ?_, ?_, ?_, ?_, ?_⟩
  · rw [List.length_set]; exact r.len
  · intro b o q
    by_cases hb : b = a
    · subst hb
      rw [upd_same] at q
      rw [← q]
      exact h4
    · rw [upd_ne hb] at q
      exact r.ext b o q
  · intro b o q
    obtain ⟨k1, k2⟩ := r.frm b o q
    have n : b ≠ a := fun z => by rw [z, h3] at q; cases q
    rw [upd_ne n]
    exact ⟨k1, k2⟩
  · intro j s q
    by_cases hj : i = j
    · subst hj
      have hl : i < δ.length := (List.getElem?_eq_some_iff.mp e).1
      rw [List.getElem?_set_self hl] at q
      cases q
      exact ⟨.ref a, h1, .lst (SqL.of upd_same) (DtAll.mono sg _ _ h5)⟩
    · rw [List.getElem?_set_ne hj] at q
      have k := r.slo j s q
      cases s with
      | dat d =>
        obtain ⟨v, k1, k2⟩ := k
        exact ⟨v, k1, Dt.mono sg _ _ k2⟩
      | own ys =>
        obtain ⟨b, us, k1, k2, k3, k4, k5⟩ := k
        have n : b ≠ a := fun z => hj (r.apt i j _ _ a e q rfl rfl h1 (by rw [k1, z]))
        exact ⟨b, us, k1, by rw [upd_ne n]; exact k2, k3, k4, DtAll.mono sg _ _ k5⟩
      | pen b c =>
        obtain ⟨k1, k2, k3, c, ns, n, g, k4, k5, k6⟩ := k
        have n' : b ≠ a := fun z => hj (r.apt i j _ _ a e q rfl rfl h1 (by rw [k1, z]))
        exact ⟨k1, by rw [upd_ne n']; exact k2, k3, c, ns, n, g, k4, Same.seq sg k5, k6⟩
      | und => trivial
  · intro x y s t p k1 k2 m1 m2 k3 k4
    have nx : i ≠ x := fun z => by
      subst z
      have hl : i < δ.length := (List.getElem?_eq_some_iff.mp e).1
      rw [List.getElem?_set_self hl] at k1
      cases k1; cases m1
    have ny : i ≠ y := fun z => by
      subst z
      have hl : i < δ.length := (List.getElem?_eq_some_iff.mp e).1
      rw [List.getElem?_set_self hl] at k2
      cases k2; cases m2
    rw [List.getElem?_set_ne nx] at k1
    rw [List.getElem?_set_ne ny] at k2
    exact r.apt x y s t p k1 k2 m1 m2 k3 k4
/-- a new own list in a slot -/
theorem Rel.setOwn (r : Rel K F σ G H δ) {i : Nat} {p : Addr} {vs : List V} {xs : List D} (hp : H p = none) (hf : F p = none) (h : DtAll K G vs xs) : Rel K F (σ.set i (some (.ref p))) G (upd H p (.lst vs)) (δ.set i (.own xs)) where
  len := by rw [List.length_set, List.length_set]; exact r.len
  ext := fun b o e => by
    have n : b ≠ p := ne_of_none (r.ext b o e) hp
    rw [upd_ne n]
    exact r.ext b o e
  frm := fun a o e => by
    obtain ⟨h1, h2⟩ := r.frm a o e
    have n : a ≠ p := ne_of_none h2 hp
    rw [upd_ne n]
    exact ⟨h1, h2⟩
  slo := fun j s e => by
    by_cases hj : i = j
    · subst hj
      rw [List.getElem?_set] at e
      rw [List.getElem?_set]
      by_cases hl : i < δ.length
      · simp only [hl, if_true, if_pos rfl] at e
        cases e
        have hl2 : i < σ.length := by rw [r.len]; exact hl
        simp only [hl2, if_true, if_pos rfl]
        exact ⟨p, vs, rfl, r.gnone hp, hf, upd_same, h⟩
      · simp only [hl, if_false, if_pos rfl] at e
        cases e
    · rw [List.getElem?_set_ne hj] at e
      rw [List.getElem?_set_ne hj]
      have k := r.slo j s e
      cases s with
      | dat d => exact k
      | own ys =>
        obtain ⟨b, us, k1, k2, k3, k4, k5⟩ := k
        have n : b ≠ p := ne_of_none k4 hp
        exact ⟨b, us, k1, k2, k3, by rw [upd_ne n]; exact k4, k5⟩
      | pen b c =>
        obtain ⟨k1, k2, k3, c, ns, n, g, k4, k5, k6⟩ := k
        have n' : b ≠ p := ne_of_none k4 hp
        exact ⟨k1, k2, k3, c, ns, n, g, by rw [upd_ne n']; exact k4, k5, k6⟩
      | und => trivial
  apt := fun a b s t q h1 h2 m1 m2 h3 h4 => by
    have fresh : ∀ (j : Nat) (u : Sl), δ[j]? = some u → u.isMut = true → σ[j]? ≠ some (some (V.ref p)) := fun j u k1 k2 k3 => by
      have k := r.slo j u k1
      cases u with
      | dat d => cases k2
      | own ys =>
        obtain ⟨b, us, e1, _, _, e4, _⟩ := k
        rw [k3] at e1; cases e1
        rw [hp] at e4; cases e4
      | pen b c =>
        obtain ⟨e1, _, _, c, ns, n, g, e4, _⟩ := k
        rw [k3] at e1; cases e1
        rw [hp] at e4; cases e4
      | und => cases k2
    by_cases ha : i = a
    · by_cases hb : i = b
      · rw [← ha, ← hb]
      · subst ha
        rw [List.getElem?_set_ne hb] at h2 h4
        rw [List.getElem?_set] at h3
        split at h3
        · split at h3
          · cases h3; exact absurd h4 (fresh b t h2 m2)
          · cases h3
        · exact absurd rfl (by assumption)
    · by_cases hb : i = b
      · subst hb
        rw [List.getElem?_set_ne ha] at h1 h3
        rw [List.getElem?_set] at h4
        split at h4
        · split at h4
          · cases h4; exact absurd h3 (fresh a s h1 m1)
          · cases h4
        · exact absurd rfl (by assumption)
      · rw [List.getElem?_set_ne ha] at h1 h3
        rw [List.getElem?_set_ne hb] at h2 h4
        exact r.apt a b s t q h1 h2 m1 m2 h3 h4
/-- an own list changes -/
theorem Rel.mut (r : Rel K F σ G H δ) {i : Nat} {a : Addr} {xs ys : List D} {us : List V} (e : δ[i]? = some (.own xs)) (ea : σ[i]? = some (some (.ref a))) (h : DtAll K G us ys) : Rel K F σ G (upd H a (.lst us)) (δ.set i (.own ys)) := by
  obtain ⟨b, vs, h1, h2, h3, h4, h5⟩ := r.slo i _ e
  have hab : b = a := by
    rw [ea] at h1
    cases h1
    rfl
  subst hab
  have hl : i < δ.length := (List.getElem?_eq_some_iff.mp e).1
  refine ⟨by rw [List.length_set]; exact r.len, fun c o q => ?_, fun c o q => ?_, fun j s q => ?_, fun x y s t p k1 k2 m1 m2 k3 k4 => ?_⟩
  · have n : c ≠ b := fun z => by rw [z, h2] at q; cases q
    rw [upd_ne n]
    exact r.ext c o q
  · obtain ⟨k1, k2⟩ := r.frm c o q
    have n : c ≠ b := fun z => by rw [z, h3] at q; cases q
    rw [upd_ne n]
    exact ⟨k1, k2⟩
  · by_cases hj : i = j
    · subst hj
      rw [List.getElem?_set_self hl] at q
      cases q
      exact ⟨b, us, ea, h2, h3, upd_same, h⟩
    · rw [List.getElem?_set_ne hj] at q
      have k := r.slo j s q
      cases s with
      | dat d => exact k
      | own zs =>
        obtain ⟨c, ws, k1, k2, k3, k4, k5⟩ := k
        have n : c ≠ b := fun z => hj (r.apt i j _ _ b e q rfl rfl ea (by rw [k1, z]))
        exact ⟨c, ws, k1, k2, k3, by rw [upd_ne n]; exact k4, k5⟩
      | pen c m =>
        obtain ⟨k1, k2, k3, c', ns, n, g, k4, k5, k6⟩ := k
        have n' : c ≠ b := fun z => hj (r.apt i j _ _ b e q rfl rfl ea (by rw [k1, z]))
        exact ⟨k1, k2, k3, c', ns, n, g, by rw [upd_ne n']; exact k4, k5, k6⟩
      | und => trivial
  · have up : ∀ (z : Nat) (w : Sl), (δ.set i (.own ys))[z]? = some w → w.isMut = true → ∃ w', δ[z]? = some w' ∧ w'.isMut = true := fun z w q1 q2 => by
      by_cases hz : i = z
      · subst hz
        exact ⟨_, e, rfl⟩
      · rw [List.getElem?_set_ne hz] at q1
        exact ⟨w, q1, q2⟩
    obtain ⟨s', k1', m1'⟩ := up x s k1 m1
    obtain ⟨t', k2', m2'⟩ := up y t k2 m2
    exact r.apt x y s' t' p k1' k2' m1' m2' k3 k4
/-- a new own thing, kept by the frame -/
theorem Rel.newF (r : Rel K F σ G H δ) {p : Addr} {u : HO} (hp : H p = none) : Rel K (upd F p u) σ G (upd H p u) δ where
  len := r.len
  ext := fun b o e => by
    rw [upd_ne (ne_of_none (r.ext b o e) hp)]
    exact r.ext b o e
  frm := fun a o e => by
    by_cases ha : a = p
    · subst ha
      rw [upd_same] at e
      rw [upd_same]
      exact ⟨r.gnone hp, e⟩
    · rw [upd_ne ha] at e
      rw [upd_ne ha]
      exact r.frm a o e
  slo := fun i s e => by
    have k := r.slo i s e
    cases s with
    | dat d => exact k
    | own ys =>
      obtain ⟨b, us, k1, k2, k3, k4, k5⟩ := k
      have n : b ≠ p := ne_of_none k4 hp
      exact ⟨b, us, k1, k2, by rw [upd_ne n]; exact k3, by rw [upd_ne n]; exact k4, k5⟩
    | pen b c =>
      obtain ⟨k1, k2, k3, c, ns, n, g, k4, k5, k6⟩ := k
      have n' : b ≠ p := ne_of_none k4 hp
      exact ⟨k1, k2, by rw [upd_ne n']; exact k3, c, ns, n, g, by rw [upd_ne n']; exact k4, k5, k6⟩
    | und => trivial
  apt := r.apt
/-- what the frame keeps becomes frozen data -/
theorem Rel.freezeF {p : Addr} {u : HO} (r : Rel K (upd F p u) σ G H δ) (hf : F p = none) : Rel K F σ (upd G p u) H δ := by
  obtain ⟨g0, h0⟩ := r.frm p u upd_same
  have sg : Same G (upd G p u) := same_new g0
  refine ⟨r.len, fun b o e => ?_, fun a o e => ?_, fun i s e => ?_, r.apt⟩
  · by_cases hb : b = p
    · subst hb
      rw [upd_same] at e
      rw [← e]
      exact h0
    · rw [upd_ne hb] at e
      exact r.ext b o e
  · have n : a ≠ p := fun z => by rw [z, hf] at e; cases e
    have k := r.frm a o (by rw [upd_ne n]; exact e)
    rw [upd_ne n]
    exact k
  · have k := r.slo i s e
    cases s with
    | dat d =>
      obtain ⟨v, k1, k2⟩ := k
      exact ⟨v, k1, Dt.mono sg _ _ k2⟩
    | own ys =>
      obtain ⟨b, us, k1, k2, k3, k4, k5⟩ := k
      have n : b ≠ p := fun z => by rw [z, upd_same] at k3; cases k3
      rw [upd_ne n] at k3
      exact ⟨b, us, k1, by rw [upd_ne n]; exact k2, k3, k4, DtAll.mono sg _ _ k5⟩
    | pen b c =>
      obtain ⟨k1, k2, k3, c, ns, n, g, k4, k5, k6⟩ := k
      have n' : b ≠ p := fun z => by rw [z, upd_same] at k3; cases k3
      rw [upd_ne n'] at k3
      exact ⟨k1, by rw [upd_ne n']; exact k2, k3, c, ns, n, g, k4, Same.seq sg k5, k6⟩
    | und => trivial
/-- what the frame keeps becomes a slot's own -/
theorem Rel.takeOwn {p : Addr} {vs : List V} {xs : List D} {i : Nat} (r : Rel K (upd F p (.lst vs)) σ G H δ) (hf : F p = none) (h : DtAll K G vs xs) : Rel K F (σ.set i (some (.ref p))) G H (δ.set i (.own xs)) := by
  obtain ⟨g0, h0⟩ := r.frm p _ upd_same
  have far : ∀ (j : Nat) (t : Sl), δ[j]? = some t → t.isMut = true → σ[j]? ≠ some (some (V.ref p)) := fun j t k1 k2 k3 => by
    have k := r.slo j t k1
    cases t with
    | dat d => cases k2
    | own ys =>
      obtain ⟨b, us, e1, _, e3, _⟩ := k
      rw [k3] at e1
      cases e1
      rw [upd_same] at e3
      cases e3
    | pen b c =>
      obtain ⟨e1, _, e3, _⟩ := k
      rw [k3] at e1
      cases e1
      rw [upd_same] at e3
      cases e3
    | und => cases k2
  refine ⟨by rw [List.length_set, List.length_set]; exact r.len, r.ext, fun a o e => ?_, fun j s e => ?_, fun x y s t q k1 k2 m1 m2 k3 k4 => ?_⟩
  · have n : a ≠ p := fun z => by rw [z, hf] at e; cases e
    exact r.frm a o (by rw [upd_ne n]; exact e)
  · by_cases hj : i = j
    · subst hj
      rw [List.getElem?_set] at e
      rw [List.getElem?_set]
      by_cases hl : i < δ.length
      · simp only [hl, if_true, if_pos rfl] at e
        cases e
        have hl2 : i < σ.length := by rw [r.len]; exact hl
        simp only [hl2, if_true, if_pos rfl]
        exact ⟨p, vs, rfl, g0, hf, h0, h⟩
      · simp only [hl, if_false, if_pos rfl] at e
        cases e
    · rw [List.getElem?_set_ne hj] at e
      rw [List.getElem?_set_ne hj]
      have k := r.slo j s e
      cases s with
      | dat d => exact k
      | own ys =>
        obtain ⟨b, us, k1, k2, k3, k4, k5⟩ := k
        have n : b ≠ p := fun z => by rw [z, upd_same] at k3; cases k3
        rw [upd_ne n] at k3
        exact ⟨b, us, k1, k2, k3, k4, k5⟩
      | pen b c =>
        obtain ⟨k1, k2, k3, c, ns, n, g, k4, k5, k6⟩ := k
        have n' : b ≠ p := fun z => by rw [z, upd_same] at k3; cases k3
        rw [upd_ne n'] at k3
        exact ⟨k1, k2, k3, c, ns, n, g, k4, k5, k6⟩
      | und => trivial
  · by_cases hx : i = x
    · by_cases hy : i = y
      · rw [← hx, ← hy]
      · subst hx
        rw [List.getElem?_set_ne hy] at k2 k4
        rw [List.getElem?_set] at k3
        split at k3
        · split at k3
          · cases k3; exact absurd k4 (far y t k2 m2)
          · cases k3
        · exact absurd rfl (by assumption)
    · by_cases hy : i = y
      · subst hy
        rw [List.getElem?_set_ne hx] at k1 k3
        rw [List.getElem?_set] at k4
        split at k4
        · split at k4
          · cases k4; exact absurd k3 (far x s k1 m1)
          · cases k4
        · exact absurd rfl (by assumption)
      · rw [List.getElem?_set_ne hx] at k1 k3
        rw [List.getElem?_set_ne hy] at k2 k4
        exact r.apt x y s t q k1 k2 m1 m2 k3 k4
end

/-! ### universal readings, judgements -/
def U (X : Cx) (e : Expr) : TE := fun σ H Q => ∀ pins s, Inv X pins σ H s → wpAny (model X.prog X.w) X.A (eval e X.env) (EP X pins σ Q) X.xe s
def UA (X : Cx) (es : List Expr) : TA := fun σ H Q => ∀ pos pins s, Inv X pins σ H s → wpAny (model X.prog X.w) X.A (spliced (backTo pos (starEach es X.env))) (AP X pins σ Q) X.xe s
def UT (X : Cx) (e : Expr) : TT := fun σ H Q => ∀ pins s, Inv X pins σ H s → wpAny (model X.prog X.w) X.A (isTrue e X.env (eval e X.env)) (TP X pins σ Q) X.xe s
def UTs (X : Cx) (ifs : List Expr) : TT := fun σ H Q => ∀ pins s, Inv X pins σ H s →
    wpAny (model X.prog X.w) X.A (forIn ifs true fun c r => if r = true then do let ok ← isTrue c X.env (eval c X.env); pure (ForInStep.yield ok) else pure (ForInStep.yield r)) (TP X pins σ Q) X.xe s
def US (X : Cx) (st : Stmt) : TS := fun D σ H => ∀ pins s, Inv X pins σ H s → wpAny (model X.prog X.w) X.A (exec st X.env) (SP X pins D) X.xe s
def USs (X : Cx) (st : List Stmt) : TS := fun D σ H => ∀ pins s, Inv X pins σ H s → wpAny (model X.prog X.w) X.A (execs st X.env) (SP X pins D) X.xe s
section
variable {X : Cx} {e : Expr} {es : List Expr} {st : Stmt} {sts : List Stmt}
theorem pe_U : PE X e (U X e) := ⟨fun pins s σ H Q I h => h pins s I⟩
theorem pa_U : PA X es (UA X es) := ⟨fun pos pins s σ H Q I h => h pos pins s I⟩
theorem pt_U : PT X e (UT X e) := ⟨fun pins s σ H Q I h => h pins s I⟩
theorem pts_U : PTs X es (UTs X es) := ⟨fun pins s σ H Q I h => h pins s I⟩
theorem ps_U : PS X st (US X st) := ⟨fun pins s σ H D I h => h pins s I⟩
theorem pss_U : PSs X sts (USs X sts) := ⟨fun pins s σ H D I h => h pins s I⟩
theorem U_of {t : TE} (h : PE X e t) {σ : L2.St} {H : Hp} {Q : VK} (q : t σ H Q) : U X e σ H Q := fun pins s I => h.run pins s σ H Q I q
theorem UA_of {t : TA} (h : PA X es t) {σ : L2.St} {H : Hp} {Q : List V → Hp → Prop} (q : t σ H Q) : UA X es σ H Q := fun pos pins s I => h.run pos pins s σ H Q I q
theorem UT_of {t : TT} (h : PT X e t) {σ : L2.St} {H : Hp} {Q : Bool → Hp → Prop} (q : t σ H Q) : UT X e σ H Q := fun pins s I => h.run pins s σ H Q I q
theorem UTs_of {t : TT} (h : PTs X es t) {σ : L2.St} {H : Hp} {Q : Bool → Hp → Prop} (q : t σ H Q) : UTs X es σ H Q := fun pins s I => h.run pins s σ H Q I q
theorem US_of {t : TS} (h : PS X st t) {σ : L2.St} {H : Hp} {D : Ends} (q : t D σ H) : US X st D σ H := fun pins s I => h.run pins s σ H D I q
theorem USs_of {t : TS} (h : PSs X sts t) {σ : L2.St} {H : Hp} {D : Ends} (q : t D σ H) : USs X sts D σ H := fun pins s I => h.run pins s σ H D I q
end

/-- an expression from a state gives data with Φ -/
def J (X : Cx) (e : Expr) (δ : List Sl) (Φ : D → List Sl → Prop) : Prop :=
  ∀ (F : Hp) (σ : L2.St) (G H : Hp) (Q : VK), Rel X.K F σ G H δ →
    (∀ v d δ' G' H', Rel X.K F σ G' H' δ' → Same G G' → Dt X.K G' v d → Φ d δ' → Q v H') → U X e σ H Q
def JA (X : Cx) (es : List Expr) (δ : List Sl) (Φ : List D → List Sl → Prop) : Prop :=
  ∀ (F : Hp) (σ : L2.St) (G H : Hp) (Q : List V → Hp → Prop), Rel X.K F σ G H δ →
    (∀ vs ds δ' G' H', Rel X.K F σ G' H' δ' → Same G G' → DtAll X.K G' vs ds → Φ ds δ' → Q vs H') → UA X es σ H Q
def JT (X : Cx) (e : Expr) (δ : List Sl) (Φ : Bool → List Sl → Prop) : Prop :=
  ∀ (F : Hp) (σ : L2.St) (G H : Hp) (Q : Bool → Hp → Prop), Rel X.K F σ G H δ →
    (∀ b δ' G' H', Rel X.K F σ G' H' δ' → Same G G' → Φ b δ' → Q b H') → UT X e σ H Q
def JTs (X : Cx) (es : List Expr) (δ : List Sl) (Φ : Bool → List Sl → Prop) : Prop :=
  ∀ (F : Hp) (σ : L2.St) (G H : Hp) (Q : Bool → Hp → Prop), Rel X.K F σ G H δ →
    (∀ b δ' G' H', Rel X.K F σ G' H' δ' → Same G G' → Φ b δ' → Q b H') → UTs X es σ H Q
/-- what is wanted behind statements, by data -/
structure DE where
  nx : List Sl → Prop
  rt : D → List Sl → Prop
  bk : List Sl → Prop := fun _ => False
  ct : List Sl → Prop := fun _ => False
/-- the heap-level ends of a data-level end -/
structure EndsOk (K : PySem.W.Frag) (F G : Hp) (E : DE) (D : Ends) : Prop where
  nx : ∀ σ' δ' G' H', Rel K F σ' G' H' δ' → Same G G' → E.nx δ' → D.nx σ' H'
  rt : ∀ v d σ' δ' G' H', Rel K F σ' G' H' δ' → Same G G' → Dt K G' v d → E.rt d δ' → D.rt v H'
  bk : ∀ σ' δ' G' H', Rel K F σ' G' H' δ' → Same G G' → E.bk δ' → D.bk σ' H'
  ct : ∀ σ' δ' G' H', Rel K F σ' G' H' δ' → Same G G' → E.ct δ' → D.ct σ' H'
theorem EndsOk.mono {K : PySem.W.Frag} {F G G1 : Hp} {E : DE} {D : Ends} (h : EndsOk K F G E D) (e : Same G G1) : EndsOk K F G1 E D :=
  ⟨fun σ' δ' G' H' r s q => h.nx σ' δ' G' H' r (e.trans s) q, fun v d σ' δ' G' H' r s x q => h.rt v d σ' δ' G' H' r (e.trans s) x q, fun σ' δ' G' H' r s q => h.bk σ' δ' G' H' r (e.trans s) q, fun σ' δ' G' H' r s q => h.ct σ' δ' G' H' r (e.trans s) q⟩
def JS (X : Cx) (st : Stmt) (δ : List Sl) (E : DE) : Prop :=
  ∀ (F : Hp) (σ : L2.St) (G H : Hp) (D : Ends), Rel X.K F σ G H δ → EndsOk X.K F G E D → US X st D σ H
def JSs (X : Cx) (sts : List Stmt) (δ : List Sl) (E : DE) : Prop :=
  ∀ (F : Hp) (σ : L2.St) (G H : Hp) (D : Ends), Rel X.K F σ G H δ → EndsOk X.K F G E D → USs X sts D σ H
theorem J.imp {X : Cx} {e : Expr} {δ : List Sl} {Φ Ψ : D → List Sl → Prop} (h : J X e δ Φ) (i : ∀ d δ', Φ d δ' → Ψ d δ') : J X e δ Ψ := fun F σ G H Q r k => h F σ G H Q r fun v d δ' G' H' r' s x q => k v d δ' G' H' r' s x (i d δ' q)
theorem JA.imp {X : Cx} {e : List Expr} {δ : List Sl} {Φ Ψ : List D → List Sl → Prop} (h : JA X e δ Φ) (i : ∀ d δ', Φ d δ' → Ψ d δ') : JA X e δ Ψ := fun F σ G H Q r k => h F σ G H Q r fun v d δ' G' H' r' s x q => k v d δ' G' H' r' s x (i d δ' q)
theorem JT.imp {X : Cx} {e : Expr} {δ : List Sl} {Φ Ψ : Bool → List Sl → Prop} (h : JT X e δ Φ) (i : ∀ d δ', Φ d δ' → Ψ d δ') : JT X e δ Ψ := fun F σ G H Q r k => h F σ G H Q r fun d δ' G' H' r' s q => k d δ' G' H' r' s (i d δ' q)
end DL
end

section
/-! DL2: expressions. -/
namespace DL
open PySem PySem.Spec PyProof.Rows L2
section
variable {X : Cx} {δ : List Sl} {Φ : D → List Sl → Prop} {Ψ : Bool → List Sl → Prop} {pos : Pos} {a b c e : Expr} {es rest : List Expr}
theorem J_const {v : V} {d : D} (h : PE X e (tC v)) (hd : ∀ G, Dt X.K G v d) (q : Φ d δ) : J X e δ Φ :=
  fun F σ G H Q r k => U_of h (k v d δ G H r (Same.refl G) (hd G) q)
theorem J_int {i : Int} {j} (q : Φ (.int i) δ) : J X (.Constant (.int i) j pos) δ Φ := J_const pe_int (fun _ => .int i) q
theorem J_bool {i : Bool} {j} (q : Φ (.bool i) δ) : J X (.Constant (.bool i) j pos) δ Φ := J_const pe_bl (fun _ => .bl i) q
theorem J_str {i : Str} {j} (q : Φ (.str i) δ) : J X (.Constant (.str i) j pos) δ Φ := J_const pe_str (fun _ => .str i) q
theorem J_none {j} (q : Φ .none δ) : J X (.Constant .none j pos) δ Φ := J_const pe_non (fun _ => .non) q
theorem J_gint {x : Str} {i : Int} {t : Tok} (hm : X.mg x = some (.int i t)) (q : Φ (.int i) δ) (hg : Gl X x := by rfl) (hd : (x == ("__debug__" : Str)) = false := by decide) : J X (.Name x pos) δ Φ :=
  J_const (pe_glob hg hm (show RelV (.int i) (.int i t) from ⟨t, rfl⟩) hd) (fun _ => .int i) q
theorem J_gstr {x z : Str} {t : Tok} (hm : X.mg x = some (.str z t)) (q : Φ (.str z) δ) (hg : Gl X x := by rfl) (hd : (x == ("__debug__" : Str)) = false := by decide) : J X (.Name x pos) δ Φ :=
  J_const (pe_glob hg hm (show RelV (.str z) (.str z t) from ⟨t, rfl⟩) hd) (fun _ => .str z) q
theorem J_name {x : Str} (i : Nat) {d : D} (hs : δ[i]? = some (.dat d)) (q : Φ d δ) (hN : X.N[i]? = some x := by rfl) (hv : Vis X.env.scope x := by first | exact Or.inl rfl | exact Or.inr (Or.inl rfl) | exact Or.inr (Or.inr rfl))
    (hd : (x == ("__debug__" : Str)) = false := by decide) (hcd : (x == ("__classdict__" : Str)) = false := by decide) : J X (.Name x pos) δ Φ := fun F σ G H Q r k => by
  obtain ⟨v, e, h⟩ := r.slo i _ hs
  exact U_of (pe_var hN hv hd hcd) ⟨v, e, k v d δ G H r (Same.refl G) h q⟩
/-- an own list is handed on: it is frozen from then on -/
theorem J_nameOwn {x : Str} (i : Nat) {xs : List D} (hs : δ[i]? = some (.own xs)) (q : Φ (.list xs) (δ.set i (.dat (.list xs)))) (hN : X.N[i]? = some x := by rfl) (hv : Vis X.env.scope x := by first | exact Or.inl rfl | exact Or.inr (Or.inl rfl) | exact Or.inr (Or.inr rfl))
    (hd : (x == ("__debug__" : Str)) = false := by decide) (hcd : (x == ("__classdict__" : Str)) = false := by decide) : J X (.Name x pos) δ Φ := fun F σ G H Q r k => by
  obtain ⟨a, vs, e, h1, h2, h3, h4, r'⟩ := r.freeze hs
  exact U_of (pe_var hN hv hd hcd) ⟨.ref a, e, k (.ref a) (.list xs) _ _ H r' (same_new h2) (.lst (SqL.of upd_same) (DtAll.mono (same_new h2) _ _ h4)) q⟩
theorem JA_nil {Φ : List D → List Sl → Prop} (q : Φ [] δ) : JA X [] δ Φ := fun F σ G H Q r k => UA_of pa_nil (k [] [] δ G H r (Same.refl G) .nil q)
theorem JA_cons {Φ : List D → List Sl → Prop} (h : J X e δ fun d δ1 => JA X es δ1 fun ds δ2 => Φ (d :: ds) δ2) (hs : starEach (e :: es) X.env = (false, eval e X.env) :: starEach es X.env := by rfl) : JA X (e :: es) δ Φ :=
  fun F σ G H Q r k => UA_of (pa_cons pe_U pa_U hs) (h F σ G H _ r fun v d δ1 G1 H1 r1 s1 x1 q1 =>
    q1 F σ G1 H1 _ r1 fun vs ds δ2 G2 H2 r2 s2 x2 q2 => k (v :: vs) (d :: ds) δ2 G2 H2 r2 (s1.trans s2) (.cons (Dt.mono s2 _ _ x1) x2) q2)
theorem len_ok {vs : List V} {ds : List D} {K : PySem.W.Frag} {G : Hp} (h : DtAll K G vs ds) (hl : Nat.ble ds.length 1000 = true) : vs.length ≤ sizeLine := by
  have h1 : ds.length ≤ 1000 := Nat.le_of_ble_eq_true hl
  have h2 := h.length
  exact Nat.le_trans (by omega : vs.length ≤ 1000) (by decide)
theorem J_tup {x1} (ha : JA X es δ fun ds δ' => Nat.ble ds.length 1000 = true ∧ Φ (.tuple ds) δ') : J X (.Tuple es x1 pos) δ Φ := fun F σ G H Q r k =>
  U_of (pe_tup pa_U) (ha F σ G H _ r fun vs ds δ' G' H' r' s x q => ⟨len_ok x q.1, fun p hp =>
    k (.ref p) _ δ' _ _ (r'.new hp) (s.trans (same_new (r'.gnone hp))) (.tup (SqT.of upd_same) (DtAll.mono (same_new (r'.gnone hp)) _ _ x)) q.2⟩)
theorem J_lst (ha : JA X es δ fun ds δ' => Nat.ble ds.length 1000 = true ∧ Φ (.list ds) δ') : J X (.List es pos) δ Φ := fun F σ G H Q r k =>
  U_of (pe_lst pa_U) (ha F σ G H _ r fun vs ds δ' G' H' r' s x q => ⟨len_ok x q.1, fun p hp =>
    k (.ref p) _ δ' _ _ (r'.new hp) (s.trans (same_new (r'.gnone hp))) (.lst (SqL.of upd_same) (DtAll.mono (same_new (r'.gnone hp)) _ _ x)) q.2⟩)
theorem J_dict0 (q : Φ (.dict []) δ) : J X (.Dict [] [] pos) δ Φ := fun F σ G H Q r k =>
  U_of pe_dnewK (fun p hp => k (.ref p) _ δ _ _ (r.new hp) (same_new (r.gnone hp)) (.dct upd_same .nil) q)

/-! ### and, or, not, if -/
theorem J_one {op} (h : J X a δ Φ) : J X (.BoolOp op [a] pos) δ Φ := fun F σ G H Q r k => U_of (pe_one pe_U) (h F σ G H Q r k)
theorem J_and (h : J X a δ fun d δ1 => ∃ k, d = .bool k ∧ (k = true → J X (.BoolOp .And (b :: rest) pos) δ1 Φ) ∧ (k = false → Φ (.bool false) δ1)) : J X (.BoolOp .And (a :: b :: rest) pos) δ Φ := fun F σ G H Q r k =>
  U_of (pe_and pe_U pe_U) (h F σ G H _ r fun v d δ1 G1 H1 r1 s1 x1 ⟨t, e, q1, q2⟩ => by
    subst e
    cases x1
    refine ⟨t, rfl, ?_⟩
    cases t with
    | true => exact iteT (q1 rfl F σ G1 H1 Q r1 fun v d δ2 G2 H2 r2 s2 x2 q => k v d δ2 G2 H2 r2 (s1.trans s2) x2 q)
    | false => exact iteF (k _ _ δ1 G1 H1 r1 s1 (.bl false) (q2 rfl)))
theorem J_or (h : J X a δ fun d δ1 => ∃ k, d = .bool k ∧ (k = true → Φ (.bool true) δ1) ∧ (k = false → J X (.BoolOp .Or (b :: rest) pos) δ1 Φ)) : J X (.BoolOp .Or (a :: b :: rest) pos) δ Φ := fun F σ G H Q r k =>
  U_of (pe_or pe_U pe_U) (h F σ G H _ r fun v d δ1 G1 H1 r1 s1 x1 ⟨t, e, q1, q2⟩ => by
    subst e
    cases x1
    refine ⟨t, rfl, ?_⟩
    cases t with
    | true => exact iteT (k _ _ δ1 G1 H1 r1 s1 (.bl true) (q1 rfl))
    | false => exact iteF (q2 rfl F σ G1 H1 Q r1 fun v d δ2 G2 H2 r2 s2 x2 q => k v d δ2 G2 H2 r2 (s1.trans s2) x2 q))
theorem J_not (h : J X a δ fun d δ1 => ∃ k, d = .bool k ∧ Φ (.bool (!k)) δ1) : J X (.UnaryOp .Not a pos) δ Φ := fun F σ G H Q r k =>
  U_of (pe_not pe_U) (h F σ G H _ r fun v d δ1 G1 H1 r1 s1 x1 ⟨t, e, q1⟩ => by
    subst e
    cases x1
    exact ⟨t, rfl, k _ _ δ1 G1 H1 r1 s1 (.bl (!t)) q1⟩)
theorem J_neg (h : J X a δ fun d δ1 => ∃ i, d = .int i ∧ Φ (.int (-i)) δ1) : J X (.UnaryOp .USub a pos) δ Φ := fun F σ G H Q r k =>
  U_of (pe_un un_neg pe_U) (h F σ G H _ r fun v d δ1 G1 H1 r1 s1 x1 ⟨t, e, q1⟩ => by
    subst e
    cases x1
    exact ⟨t, rfl, k _ _ δ1 G1 H1 r1 s1 (.int (-t)) q1⟩)
theorem J_ifExp (h : JT X c δ fun t δ1 => (t = true → J X a δ1 Φ) ∧ (t = false → J X b δ1 Φ)) : J X (.IfExp c a b pos) δ Φ := fun F σ G H Q r k =>
  U_of (pe_ifExp pt_U pe_U pe_U) (h F σ G H _ r fun t δ1 G1 H1 r1 s1 q1 => by
    cases t with
    | true => exact iteT (q1.1 rfl F σ G1 H1 Q r1 fun v d δ2 G2 H2 r2 s2 x2 q => k v d δ2 G2 H2 r2 (s1.trans s2) x2 q)
    | false => exact iteF (q1.2 rfl F σ G1 H1 Q r1 fun v d δ2 G2 H2 r2 s2 x2 q => k v d δ2 G2 H2 r2 (s1.trans s2) x2 q))
/-! ### tests -/
/-- a name, a call, a subscript, a field, if it gives a truth -/
theorem JT_val (h : J X e δ fun d δ1 => ∃ k, d = .bool k ∧ Ψ k δ1) (he : ∀ whole, isTrue e X.env whole = (do let v ← whole; standAt e.pos; holding [v] (truthy v)) := by intro _; rfl) : JT X e δ Ψ := fun F σ G H Q r k =>
  UT_of (pt_val pe_U he) (h F σ G H _ r fun v d δ1 G1 H1 r1 s1 x1 ⟨t, e, q1⟩ => by
    subst e
    cases x1
    exact ⟨t, rfl, k t δ1 G1 H1 r1 s1 q1⟩)
theorem JT_not (h : JT X a δ fun k δ1 => Ψ (!k) δ1) : JT X (.UnaryOp .Not a pos) δ Ψ := fun F σ G H Q r k =>
  UT_of (pt_not pt_U) (h F σ G H _ r fun t δ1 G1 H1 r1 s1 q1 => k (!t) δ1 G1 H1 r1 s1 q1)
/-- a chain of and, or as a test, whatever its whole is -/
def JW (X : Cx) (e : Expr) (δ : List Sl) (Φ : Bool → List Sl → Prop) : Prop :=
  ∀ (F : Hp) (σ : L2.St) (G H : Hp) (Q : Bool → Hp → Prop), Rel X.K F σ G H δ →
    (∀ b δ' G' H', Rel X.K F σ G' H' δ' → Same G G' → Φ b δ' → Q b H') → ∀ whole pins s, Inv X pins σ H s → wpAny (model X.prog X.w) X.A (isTrue e X.env whole) (TP X pins σ Q) X.xe s
def UW (X : Cx) (e : Expr) : TT := fun σ H Q => ∀ whole pins s, Inv X pins σ H s → wpAny (model X.prog X.w) X.A (isTrue e X.env whole) (TP X pins σ Q) X.xe s
theorem pw_U : PW X e (UW X e) := ⟨fun whole pins s σ H Q I h => h whole pins s I⟩
theorem UW_of {t : TT} (h : PW X e t) {σ : L2.St} {H : Hp} {Q : Bool → Hp → Prop} (q : t σ H Q) : UW X e σ H Q := fun whole pins s I => h.run whole pins s σ H Q I q
theorem JW_and1 (h : JT X a δ Ψ) : JW X (.BoolOp .And [a] pos) δ Ψ := fun F σ G H Q r k => UW_of (pw_and1 pt_U) (h F σ G H Q r k)
theorem JW_or1 (h : JT X a δ Ψ) : JW X (.BoolOp .Or [a] pos) δ Ψ := fun F σ G H Q r k => UW_of (pw_or1 pt_U) (h F σ G H Q r k)
theorem JW_and (h : JT X a δ fun t δ1 => (t = true → JW X (.BoolOp .And (b :: rest) pos) δ1 Ψ) ∧ (t = false → Ψ false δ1)) : JW X (.BoolOp .And (a :: b :: rest) pos) δ Ψ := fun F σ G H Q r k =>
  UW_of (pw_and pt_U pw_U) (h F σ G H _ r fun t δ1 G1 H1 r1 s1 q1 => by
    cases t with
    | true => exact iteT (q1.1 rfl F σ G1 H1 Q r1 fun d δ2 G2 H2 r2 s2 q => k d δ2 G2 H2 r2 (s1.trans s2) q)
    | false => exact iteF (k false δ1 G1 H1 r1 s1 (q1.2 rfl)))
theorem JW_or (h : JT X a δ fun t δ1 => (t = true → Ψ true δ1) ∧ (t = false → JW X (.BoolOp .Or (b :: rest) pos) δ1 Ψ)) : JW X (.BoolOp .Or (a :: b :: rest) pos) δ Ψ := fun F σ G H Q r k =>
  UW_of (pw_or pt_U pw_U) (h F σ G H _ r fun t δ1 G1 H1 r1 s1 q1 => by
    cases t with
    | true => exact iteT (k true δ1 G1 H1 r1 s1 (q1.1 rfl))
    | false => exact iteF (q1.2 rfl F σ G1 H1 Q r1 fun d δ2 G2 H2 r2 s2 q => k d δ2 G2 H2 r2 (s1.trans s2) q))
theorem JT_w (h : JW X e δ Ψ) : JT X e δ Ψ := fun F σ G H Q r k => UT_of pw_U.pt (h F σ G H Q r k)

/-! ### operators: by what their rules ask -/
def RJ (X : Cx) (r : R2) (x y : D) (δ : List Sl) (Φ : D → List Sl → Prop) : Prop :=
  ∀ (F : Hp) (σ : L2.St) (G H : Hp) (Q : VK) (v u : V), Rel X.K F σ G H δ → Dt X.K G v x → Dt X.K G u y →
    (∀ w d δ' G' H', Rel X.K F σ G' H' δ' → Same G G' → Dt X.K G' w d → Φ d δ' → Q w H') → r v u H Q
theorem J_bin {op : Operator} {r : R2} (ho : OpR X (binaryOp op) r) (h : J X a δ fun x δ1 => J X b δ1 fun y δ2 => RJ X r x y δ2 Φ) : J X (.BinOp a op b pos) δ Φ := fun F σ G H Q rl k =>
  U_of (pe_op ho pe_U pe_U) (h F σ G H _ rl fun v x δ1 G1 H1 r1 s1 x1 q1 => q1 F σ G1 H1 _ r1 fun u y δ2 G2 H2 r2 s2 x2 q2 =>
    q2 F σ G2 H2 Q v u r2 (Dt.mono s2 _ _ x1) x2 fun w d δ3 G3 H3 r3 s3 x3 q3 => k w d δ3 G3 H3 r3 ((s1.trans s2).trans s3) x3 q3)
theorem J_cmp {op : CmpOp} {r : R2} (ho : OpR X (compareOp op) r) (hm : behindInMarks op b = false) (h : J X a δ fun x δ1 => J X b δ1 fun y δ2 => RJ X r x y δ2 Φ) : J X (.Compare a [op] [b] pos) δ Φ := fun F σ G H Q rl k =>
  U_of (pe_cmpR ho pe_U pe_U hm) (h F σ G H _ rl fun v x δ1 G1 H1 r1 s1 x1 q1 => q1 F σ G1 H1 _ r1 fun u y δ2 G2 H2 r2 s2 x2 q2 =>
    q2 F σ G2 H2 Q v u r2 (Dt.mono s2 _ _ x1) x2 fun w d δ3 G3 H3 r3 s3 x3 q3 => k w d δ3 G3 H3 r3 ((s1.trans s2).trans s3) x3 q3)
theorem JT_cmp {op : CmpOp} {r : R2} (ho : OpR X (compareOp op) r) (hm : behindInMarks op b = false) (h : J X a δ fun x δ1 => J X b δ1 fun y δ2 => RJ X r x y δ2 fun d δ3 => ∃ k, d = .bool k ∧ Ψ k δ3) : JT X (.Compare a [op] [b] pos) δ Ψ := fun F σ G H Q rl k =>
  UT_of (pt_cmpR ho pe_U pe_U hm) (h F σ G H _ rl fun v x δ1 G1 H1 r1 s1 x1 q1 => q1 F σ G1 H1 _ r1 fun u y δ2 G2 H2 r2 s2 x2 q2 =>
    q2 F σ G2 H2 _ v u r2 (Dt.mono s2 _ _ x1) x2 fun w d δ3 G3 H3 r3 s3 x3 ⟨t, e, q3⟩ => by
      subst e
      cases x3
      exact ⟨t, rfl, k t δ3 G3 H3 r3 ((s1.trans s2).trans s3) q3⟩)
theorem J_chain {op op' : CmpOp} {r r' : R2} (ho : OpR X (compareOp op) r) (ho' : OpR X (compareOp op') r')
    (h : J X a δ fun x δ1 => J X b δ1 fun y δ2 => RJ X r x y δ2 fun d δ3 => ∃ k, d = .bool k ∧ (k = true → J X c δ3 fun z δ4 => RJ X r' y z δ4 Φ) ∧ (k = false → Φ (.bool false) δ3))
    (hm : lastMarks [op, op'] [b, c] = false := by with_unfolding_all rfl) : J X (.Compare a [op, op'] [b, c] pos) δ Φ := fun F σ G H Q rl k =>
  U_of (pe_chain ho ho' pe_U pe_U pe_U hm) (h F σ G H _ rl fun v x δ1 G1 H1 r1 s1 x1 q1 => q1 F σ G1 H1 _ r1 fun u y δ2 G2 H2 r2 s2 x2 q2 =>
    q2 F σ G2 H2 _ v u r2 (Dt.mono s2 _ _ x1) x2 fun w d δ3 G3 H3 r3 s3 x3 ⟨t, e, q3, q4⟩ => by
      subst e
      cases x3
      refine ⟨t, rfl, ?_⟩
      cases t with
      | true => exact iteT (q3 rfl F σ G3 H3 _ r3 fun z' z δ4 G4 H4 r4 s4 x4 q5 => q5 F σ G4 H4 Q u z' r4 (Dt.mono (s3.trans s4) _ _ x2) x4 fun w' d' δ5 G5 H5 r5 s5 x5 q6 =>
          k w' d' δ5 G5 H5 r5 ((((s1.trans s2).trans s3).trans s4).trans s5) x5 q6)
      | false => exact iteF (k _ _ δ3 G3 H3 r3 ((s1.trans s2).trans s3) (.bl false) (q4 rfl)))
/-- ints -/
theorem RJ_I0 {g : Int → Int → V} {i j : Int} {d : D} (hd : ∀ G, Dt X.K G (g i j) d) (q : Φ d δ) : RJ X (rI0 g) (.int i) (.int j) δ Φ := fun F σ G H Q v u r x y k => by
  cases x
  cases y
  exact ⟨i, j, rfl, rfl, k _ _ δ G H r (Same.refl G) (hd G) q⟩
theorem RJ_I {C : Int → Int → Prop} {g : Int → Int → V} {i j : Int} {d : D} (hc : C i j) (hd : ∀ G, Dt X.K G (g i j) d) (q : Φ d δ) : RJ X (rI C g) (.int i) (.int j) δ Φ := fun F σ G H Q v u r x y k => by
  cases x
  cases y
  exact ⟨i, j, rfl, rfl, hc, k _ _ δ G H r (Same.refl G) (hd G) q⟩
theorem RJ_lt {i j : Int} (q : Φ (.bool (decide (i < j))) δ) : RJ X (rI0 fun i j => .bl (decide (i < j))) (.int i) (.int j) δ Φ := RJ_I0 (fun _ => .bl _) q
theorem RJ_le {i j : Int} (q : Φ (.bool (decide (i ≤ j))) δ) : RJ X (rI0 fun i j => .bl (decide (i ≤ j))) (.int i) (.int j) δ Φ := RJ_I0 (fun _ => .bl _) q
theorem RJ_gt {i j : Int} (q : Φ (.bool (decide (j < i))) δ) : RJ X (rI0 fun i j => .bl (decide (j < i))) (.int i) (.int j) δ Φ := RJ_I0 (fun _ => .bl _) q
theorem RJ_ge {i j : Int} (q : Φ (.bool (decide (j ≤ i))) δ) : RJ X (rI0 fun i j => .bl (decide (j ≤ i))) (.int i) (.int j) δ Φ := RJ_I0 (fun _ => .bl _) q
theorem RJ_add {i j : Int} (q : Φ (.int (i + j)) δ) : RJ X (rI0 fun i j => .int (i + j)) (.int i) (.int j) δ Φ := RJ_I0 (fun _ => .int _) q
theorem RJ_sub {i j : Int} (q : Φ (.int (i - j)) δ) : RJ X (rI0 fun i j => .int (i - j)) (.int i) (.int j) δ Φ := RJ_I0 (fun _ => .int _) q
/-- == and != of data -/
theorem RJ_eqD {x y : D} (hx : SeqAt.shaped x = true) (hy : SeqAt.shaped y = true) (q : Φ (.bool (PyData.eqv x y)) δ) : RJ X (rEqD X.K) x y δ Φ := fun F σ G H Q v u r x1 y1 k =>
  ⟨x, y, Dt.dp x v (SeqAt.canLay_of_shaped hx) (Dt.mono r.ext _ _ x1), Dt.dp y u (SeqAt.canLay_of_shaped hy) (Dt.mono r.ext _ _ y1), hx, hy, k _ _ δ G H r (Same.refl G) (.bl _) q⟩
theorem RJ_neD {x y : D} (hx : SeqAt.shaped x = true) (hy : SeqAt.shaped y = true) (q : Φ (.bool (!PyData.eqv x y)) δ) : RJ X (rNeD X.K) x y δ Φ := fun F σ G H Q v u r x1 y1 k =>
  ⟨x, y, Dt.dp x v (SeqAt.canLay_of_shaped hx) (Dt.mono r.ext _ _ x1), Dt.dp y u (SeqAt.canLay_of_shaped hy) (Dt.mono r.ext _ _ y1), hx, hy, k _ _ δ G H r (Same.refl G) (.bl _) q⟩
/-- a list, a tuple: its items -/
def seqOf : D → Option (List D)
  | .list xs => some xs
  | .tuple xs => some xs
  | _ => none
theorem seq_of {K : PySem.W.Frag} {G : Hp} {v : V} {d : D} {ds : List D} (h : Dt K G v d) (e : seqOf d = some ds) : ∃ a vs, v = .ref a ∧ (SqL K G a vs ∨ SqT K G a vs) ∧ DtAll K G vs ds := by
  cases h with
  | lst h1 h2 =>
    cases e
    exact ⟨_, _, rfl, .inl h1, h2⟩
  | tup h1 h2 =>
    cases e
    exact ⟨_, _, rfl, .inr h1, h2⟩
  | _ => cases e
/-- d[i] of a list or tuple -/
theorem RJ_ix {x : D} {xs : List D} {i : Int} {d : D} (hx : seqOf x = some xs) (ha : atI xs i = some d) (q : Φ d δ) : RJ X (rIx X.K) x (.int i) δ Φ := fun F σ G H Q v u r x1 y1 k => by
  cases y1
  obtain ⟨a, vs, rfl, hs, hv⟩ := seq_of x1 hx
  have hl := hv.length
  obtain ⟨w, hw, hd⟩ : ∃ w, atI vs i = some w ∧ Dt X.K G w d := by
    unfold atI at ha ⊢
    rw [hl]
    cases e : ixN xs.length i with
    | none => rw [e] at ha; cases ha
    | some j =>
      rw [e] at ha
      exact hv.get ha
  rcases hs with hs | hs
  · exact .inl ⟨a, vs, i, w, rfl, rfl, r.ext.seq hs, hw, k w d δ G H r (Same.refl G) hd q⟩
  · exact .inr (.inl ⟨a, vs, i, w, rfl, rfl, Same.seqT r.ext hs, hw, k w d δ G H r (Same.refl G) hd q⟩)
theorem J_ix {r : R2} (hr : IxR X r) (h : J X a δ fun x δ1 => J X b δ1 fun y δ2 => RJ X r x y δ2 Φ) (hs : PlainIx b := by exact fun _ _ => rfl) : J X (.Subscript a b pos) δ Φ := fun F σ G H Q rl k =>
  U_of (pe_ix hr pe_U pe_U hs) (h F σ G H _ rl fun v x δ1 G1 H1 r1 s1 x1 q1 => q1 F σ G1 H1 _ r1 fun u y δ2 G2 H2 r2 s2 x2 q2 =>
    q2 F σ G2 H2 Q v u r2 (Dt.mono s2 _ _ x1) x2 fun w d δ3 G3 H3 r3 s3 x3 q3 => k w d δ3 G3 H3 r3 ((s1.trans s2).trans s3) x3 q3)
/-- x in, not in (.., ..) of flat things -/
def flatD : D → Bool
  | .none => true
  | .bool _ => true
  | .int _ => true
  | .str _ => true
  | _ => false
end
end DL
end

section
/-! DL3: new lists, built-in calls, slices, iteration, comprehensions. -/
namespace DL
open PySem PySem.Spec PyProof.Rows L2
/-- an expression gives a new list, kept apart -/
def JO (X : Cx) (e : Expr) (δ : List Sl) (Φ : List D → List Sl → Prop) : Prop :=
  ∀ (F : Hp) (σ : L2.St) (G H : Hp) (Q : VK), Rel X.K F σ G H δ →
    (∀ p vs xs δ' G' H', Rel X.K (upd F p (.lst vs)) σ G' H' δ' → F p = none → Same G G' → DtAll X.K G' vs xs → Φ xs δ' → Q (.ref p) H') → U X e σ H Q
section
variable {X : Cx} {δ : List Sl} {Φ : D → List Sl → Prop} {Ψ : Bool → List Sl → Prop} {Ω : List D → List Sl → Prop} {pos p2 p : Pos} {a b c e : Expr} {es rest : List Expr} {x : Str}
theorem Rel.fnone {K : PySem.W.Frag} {F G H : Hp} {σ : L2.St} {δ : List Sl} (r : Rel K F σ G H δ) {q : Addr} (hq : H q = none) : F q = none := by
  cases z : F q with
  | none => rfl
  | some o =>
    have := (r.frm q o z).2
    rw [hq] at this
    cases this
theorem J_ofO (h : JO X e δ fun xs δ' => Φ (.list xs) δ') : J X e δ Φ := fun F σ G H Q r k =>
  h F σ G H Q r fun p vs xs δ' G' H' r' hf s x q => by
    obtain ⟨g0, h0⟩ := r'.frm p _ upd_same
    exact k (.ref p) _ δ' _ H' (r'.freezeF hf) (s.trans (same_new g0)) (.lst (SqL.of upd_same) (DtAll.mono (same_new g0) _ _ x)) q
theorem JO_lst (ha : JA X es δ fun ds δ' => Nat.ble ds.length 1000 = true ∧ Ω ds δ') : JO X (.List es pos) δ Ω := fun F σ G H Q r k =>
  U_of (pe_lst pa_U) (ha F σ G H _ r fun vs ds δ' G' H' r' s x q => ⟨len_ok x q.1, fun p hp => k p vs ds δ' G' _ (r'.newF hp) (r'.fnone hp) s x q.2⟩)

/-! ### a call of a built-in thing -/
def RCJ (X : Cx) (r : List V → Hp → VK → Prop) (ds : List D) (δ : List Sl) (Φ : D → List Sl → Prop) : Prop :=
  ∀ (F : Hp) (σ : L2.St) (G H : Hp) (Q : VK) (vs : List V), Rel X.K F σ G H δ → DtAll X.K G vs ds →
    (∀ w d δ' G' H', Rel X.K F σ G' H' δ' → Same G G' → Dt X.K G' w d → Φ d δ' → Q w H') → r vs H Q
def RCO (X : Cx) (r : List V → Hp → VK → Prop) (ds : List D) (δ : List Sl) (Φ : List D → List Sl → Prop) : Prop :=
  ∀ (F : Hp) (σ : L2.St) (G H : Hp) (Q : VK) (vs : List V), Rel X.K F σ G H δ → DtAll X.K G vs ds →
    (∀ p us xs δ' G' H', Rel X.K (upd F p (.lst us)) σ G' H' δ' → F p = none → Same G G' → DtAll X.K G' us xs → Φ xs δ' → Q (.ref p) H') → r vs H Q
theorem J_callB {id : String} {r : List V → Hp → VK → Prop} (hc : CallR X (.builtin id) r) (hm : X.mg x = none) (h : JA X (e :: es) δ fun ds δ1 => RCJ X r ds δ1 Φ) (hg : Gl X x := by rfl) (hv : bootBuiltins x = some (.builtin id) := by decide +kernel)
    (hn : x ≠ "__name__" := by decide) (hdb : (x == ("__debug__" : Str)) = false := by decide) (he : starEach (e :: es) X.env = (false, eval e X.env) :: starEach es X.env := by rfl) (hpl : (backTo pos (starEach es X.env)).any (·.1) = false := by rfl) :
    J X (.Call (.Name x p) (e :: es) [] pos) δ Φ := fun F σ G H Q rl k =>
  U_of (pe_callB hc hg hm hv pa_U hn hdb he hpl) (h F σ G H _ rl fun vs ds δ1 G1 H1 r1 s1 x1 q1 => q1 F σ G1 H1 Q vs r1 x1 fun w d δ2 G2 H2 r2 s2 x2 q2 => k w d δ2 G2 H2 r2 (s1.trans s2) x2 q2)
theorem J_callTy {T : String} {r : List V → Hp → VK → Prop} (hc : CallR X (.type T) r) (hm : X.mg x = none) (h : JA X (e :: es) δ fun ds δ1 => RCJ X r ds δ1 Φ) (hg : Gl X x := by rfl) (hv : bootBuiltins x = some (.type T) := by decide +kernel)
    (hn : x ≠ "__name__" := by decide) (hdb : (x == ("__debug__" : Str)) = false := by decide) (he : starEach (e :: es) X.env = (false, eval e X.env) :: starEach es X.env := by rfl) (hpl : (backTo pos (starEach es X.env)).any (·.1) = false := by rfl) :
    J X (.Call (.Name x p) (e :: es) [] pos) δ Φ := fun F σ G H Q rl k =>
  U_of (pe_callTy hc hg hm hv pa_U hn hdb he hpl) (h F σ G H _ rl fun vs ds δ1 G1 H1 r1 s1 x1 q1 => q1 F σ G1 H1 Q vs r1 x1 fun w d δ2 G2 H2 r2 s2 x2 q2 => k w d δ2 G2 H2 r2 (s1.trans s2) x2 q2)
theorem JO_callTy {T : String} {r : List V → Hp → VK → Prop} (hc : CallR X (.type T) r) (hm : X.mg x = none) (h : JA X (e :: es) δ fun ds δ1 => RCO X r ds δ1 Ω) (hg : Gl X x := by rfl) (hv : bootBuiltins x = some (.type T) := by decide +kernel)
    (hn : x ≠ "__name__" := by decide) (hdb : (x == ("__debug__" : Str)) = false := by decide) (he : starEach (e :: es) X.env = (false, eval e X.env) :: starEach es X.env := by rfl) (hpl : (backTo pos (starEach es X.env)).any (·.1) = false := by rfl) :
    JO X (.Call (.Name x p) (e :: es) [] pos) δ Ω := fun F σ G H Q rl k =>
  U_of (pe_callTy hc hg hm hv pa_U hn hdb he hpl) (h F σ G H _ rl fun vs ds δ1 G1 H1 r1 s1 x1 q1 => q1 F σ G1 H1 Q vs r1 x1 fun w us d δ2 G2 H2 r2 f2 s2 x2 q2 => k w us d δ2 G2 H2 r2 f2 (s1.trans s2) x2 q2)
theorem da1 {K : PySem.W.Frag} {G : Hp} {vs : List V} {d : D} (h : DtAll K G vs [d]) : ∃ v, vs = [v] ∧ Dt K G v d := by
  cases h with
  | cons h1 h2 =>
    cases h2
    exact ⟨_, rfl, h1⟩
theorem da2 {K : PySem.W.Frag} {G : Hp} {vs : List V} {d e : D} (h : DtAll K G vs [d, e]) : ∃ v w, vs = [v, w] ∧ Dt K G v d ∧ Dt K G w e := by
  cases h with
  | cons h1 h2 =>
    obtain ⟨w, rfl, h3⟩ := da1 h2
    exact ⟨_, _, rfl, h1, h3⟩
/-- len -/
theorem RC_len {d : D} {xs : List D} (hx : seqOf d = some xs) (q : Φ (.int (xs.length : Nat)) δ) : RCJ X (fun zs H Q => ∃ y n, zs = [y] ∧ LenV X.K y H n ∧ Q (.int n) H) [d] δ Φ := fun F σ G H Q vs r hv k => by
  obtain ⟨v, rfl, h⟩ := da1 hv
  obtain ⟨a, us, rfl, hs, hd⟩ := seq_of h hx
  refine ⟨.ref a, xs.length, rfl, ?_, k _ _ δ G H r (Same.refl G) (.int _) q⟩
  rcases hs with hs | hs
  · exact .inl ⟨us, r.ext.seq hs, hd.length.symm⟩
  · exact .inr ⟨us, Same.seqT r.ext hs, hd.length.symm⟩
theorem RC_lenS {s : Str} (hx : s.length ≤ sizeLine) (q : Φ (.int (s.length : Nat)) δ) : RCJ X (fun zs H Q => ∃ y n, zs = [y] ∧ LenV X.K y H n ∧ Q (.int n) H) [.str s] δ Φ := fun F σ G H Q vs r hv k => by
  obtain ⟨v, rfl, h⟩ := da1 hv
  cases h
  exact ⟨.str s, s.length, rfl, ⟨hx, rfl⟩, k _ _ δ G H r (Same.refl G) (.int _) q⟩
/-- all -/
theorem RC_all {bs : List Bool} (q : Φ (.bool (bs.all id)) δ) : RCJ X (rAll X.K) [.list (bs.map .bool)] δ Φ := fun F σ G H Q vs r hv k => by
  obtain ⟨v, rfl, h⟩ := da1 hv
  cases h with
  | lst h1 h2 =>
    have e := h2.bools
    subst e
    exact ⟨_, bs, rfl, Same.seq r.ext h1, k _ _ δ G H r (Same.refl G) (.bl _) q⟩
/-- int(n) -/
theorem RC_int {i : Int} (q : Φ (.int i) δ) : RCJ X (fun xs H Q => (∃ i, xs = [.int i] ∧ Q (.int i) H) ∨ ∃ k, xs = [.bl k] ∧ Q (.int (if k then 1 else 0)) H) [.int i] δ Φ := fun F σ G H Q vs r hv k => by
  obtain ⟨v, rfl, h⟩ := da1 hv
  cases h
  exact .inl ⟨i, rfl, k _ _ δ G H r (Same.refl G) (.int _) q⟩
/-- list(xs) -/
theorem RC_list {d : D} {xs : List D} (hx : seqOf d = some xs) (q : Ω xs δ) : RCO X (fun xs H Q => ∃ p ys, xs = [.ref p] ∧ (SqL X.K H p ys ∨ SqT X.K H p ys) ∧ ∀ l, H l = none → Q (.ref l) (upd H l (.lst ys))) [d] δ Ω := fun F σ G H Q vs r hv k => by
  obtain ⟨v, rfl, h⟩ := da1 hv
  obtain ⟨a, us, rfl, hs, hd⟩ := seq_of h hx
  refine ⟨a, us, rfl, ?_, fun l hl => k l us xs δ G _ (r.newF hl) (r.fnone hl) (Same.refl G) hd q⟩
  rcases hs with hs | hs
  · exact .inl (r.ext.seq hs)
  · exact .inr (Same.seqT r.ext hs)
/-- tuple(xs) -/
theorem RC_tuple {d : D} {xs : List D} (hx : seqOf d = some xs) (q : Φ (.tuple xs) δ) : RCJ X (fun xs H Q => ∃ p ys, xs = [.ref p] ∧ ((SqL X.K H p ys ∧ ∀ l, H l = none → Q (.ref l) (upd H l (.tup ys))) ∨ (SqT X.K H p ys ∧ Q (.ref p) H))) [d] δ Φ := fun F σ G H Q vs r hv k => by
  obtain ⟨v, rfl, h⟩ := da1 hv
  cases h with
  | lst h1 h2 =>
    cases hx
    exact ⟨_, _, rfl, .inl ⟨Same.seq r.ext h1, fun l hl => k _ _ δ _ _ (r.new hl) (same_new (r.gnone hl)) (.tup (SqT.of upd_same) (DtAll.mono (same_new (r.gnone hl)) _ _ h2)) q⟩⟩
  | tup h1 h2 =>
    cases hx
    exact ⟨_, _, rfl, .inr ⟨Same.seqT r.ext h1, k _ _ δ G H r (Same.refl G) (.tup h1 h2) q⟩⟩
  | _ => cases hx
/-! ### isinstance -/
def tyName : D → String
  | .none => "NoneType"
  | .bool _ => "bool"
  | .int _ => "int"
  | .str _ => "str"
  | .list _ => "list"
  | .tuple _ => "tuple"
  | .dict _ => "dict"
theorem tyx_of {K : PySem.W.Frag} {G H : Hp} {v : V} {d : D} (h : Dt K G v d) (s : Same G H) : TyX K H v (.type (tyName d)) := by
  cases h with
  | non => exact .base .non
  | bl b => exact .base (.bl b)
  | int i => exact .base (.int i)
  | str z => exact .base (.str z)
  | lst h1 _ =>
    rcases Same.seq s h1 with (h | ⟨o, h⟩) | ⟨o, its, n, h, hc, _⟩
    · exact .base (.lst h)
    · exact .base (.frz h)
    · exact .kList h hc
  | tup h1 _ =>
    rcases Same.seqT s h1 with (h | ⟨o, h⟩) | ⟨o, its, n, h, hc, _⟩
    · exact .base (.tup h)
    · exact .fTuple h
    · exact .kTuple h hc
  | dct h1 _ => exact .base (.dK (s _ _ h1))
theorem J_isi {T : Str} {t : String} {p1 p2 : Pos} (h : J X e δ fun d δ1 => ∃ k, kitB (tyName d) t = some k ∧ Φ (.bool k) δ1) (hm : X.mg "isinstance" = none) (hT : X.mg T = none) (hv : bootBuiltins T = some (.type t) := by decide +kernel) (hg : Gl X "isinstance" := by rfl) (hgT : Gl X T := by rfl)
    (hn : T ≠ "__name__" := by decide) (hd : (T == ("__debug__" : Str)) = false := by decide) (hs1 : starEach (e :: [.Name T p2]) X.env = (false, eval e X.env) :: starEach [.Name T p2] X.env := by rfl) (hs2 : starEach [.Name T p2] X.env = (false, eval (.Name T p2) X.env) :: starEach [] X.env := by rfl)
    (hpl : (backTo pos (starEach [.Name T p2] X.env)).any (·.1) = false := by rfl) : J X (.Call (.Name "isinstance" p1) [e, .Name T p2] [] pos) δ Φ := fun F σ G H Q r k =>
  U_of (pe_callB call_isi hg hm (by decide +kernel) (pa_cons pe_U (pa_cons (pe_bltn (v := .ty t) hgT hT hv rfl hn hd) pa_nil hs2) hs1) (by decide) (by decide) hs1 hpl)
    (h F σ G H _ r fun v d δ1 G1 H1 r1 s1 x1 ⟨b, e1, q⟩ => ⟨v, .ty t, .type (tyName d), .type t, b, rfl, .ty t, tyx_of x1 r1.ext, kit_ty e1, k (.bl b) _ δ1 G1 H1 r1 s1 (.bl b) q⟩)
theorem J_isi2 {T1 T2 : Str} {t1 t2 : String} {p1 p2 p3 p4 : Pos} {x1} (h : J X e δ fun d δ1 => ∃ k1 k2, kitB (tyName d) t1 = some k1 ∧ kitB (tyName d) t2 = some k2 ∧ Φ (.bool (k1 || k2)) δ1) (hm : X.mg "isinstance" = none) (hT1 : X.mg T1 = none) (hT2 : X.mg T2 = none)
    (hv1 : bootBuiltins T1 = some (.type t1) := by decide +kernel) (hv2 : bootBuiltins T2 = some (.type t2) := by decide +kernel) (hg : Gl X "isinstance" := by rfl) (hgT1 : Gl X T1 := by rfl) (hgT2 : Gl X T2 := by rfl)
    (hn1 : T1 ≠ "__name__" := by decide) (hd1 : (T1 == ("__debug__" : Str)) = false := by decide) (hn2 : T2 ≠ "__name__" := by decide) (hd2 : (T2 == ("__debug__" : Str)) = false := by decide)
    (hs1 : starEach (e :: [.Tuple [.Name T1 p2, .Name T2 p3] x1 p4]) X.env = (false, eval e X.env) :: starEach [.Tuple [.Name T1 p2, .Name T2 p3] x1 p4] X.env := by rfl)
    (hpl : (backTo pos (starEach [.Tuple [.Name T1 p2, .Name T2 p3] x1 p4] X.env)).any (·.1) = false := by rfl) : J X (.Call (.Name "isinstance" p1) [e, .Tuple [.Name T1 p2, .Name T2 p3] x1 p4] [] pos) δ Φ := fun F σ G H Q r k =>
  U_of (pe_callB call_isiT hg hm (by decide +kernel) (pa_cons pe_U (pa_cons (pe_tup (pa_cons (pe_bltn (v := .ty t1) hgT1 hT1 hv1 rfl hn1 hd1) (pa_cons (pe_bltn (v := .ty t2) hgT2 hT2 hv2 rfl hn2 hd2) pa_nil (by rfl)) (by rfl))) pa_nil (by rfl)) hs1) (by decide) (by decide) hs1 hpl)
    (h F σ G H _ r fun v d δ1 G1 H1 r1 s1 x1 ⟨b1, b2, e1, e2, q⟩ => ⟨by show 2 ≤ sizeLine; decide, fun p hp => by
      have r2 := r1.new (u := .tup [.ty t1, .ty t2]) hp
      have s2 := same_new (G := G1) (u := HO.tup [.ty t1, .ty t2]) (r1.gnone hp)
      refine ⟨v, p, [.ty t1, .ty t2], .type (tyName d), [.type t1, .type t2], b1 || b2, rfl, upd_same, .cons (.ty t1) (.cons (.ty t2) .nil), tyx_of (Dt.mono s2 _ _ x1) r2.ext, ?_, k (.bl _) _ δ1 _ _ r2 (s1.trans s2) (.bl _) q⟩
      refine kitAny_cons (kit_ty e1) (fun h1 => ?_) (fun h1 => by rw [h1]; rfl)
      rw [h1, Bool.false_or]
      refine kitAny_cons (kit_ty e2) (fun h2 => ?_) (fun h2 => h2)
      rw [h2]
      exact kitAny_nil⟩)
/-! ### in -/
theorem flatV_of {K : PySem.W.Frag} {G : Hp} {v : V} {d : D} (h : Dt K G v d) (e : flatD d = true) : flatV v = true := by
  cases h <;> first | rfl | cases e
theorem eqV_of {K : PySem.W.Frag} {G : Hp} {v u : V} {d f : D} (h : Dt K G v d) (h2 : Dt K G u f) (e : flatD d = true) (e2 : flatD f = true) : eqV v u = PyData.eqv d f := by
  cases h <;> cases h2 <;> first | rfl | cases e | cases e2 | (simp [eqV, PyData.eqv])
theorem inV_of {K : PySem.W.Frag} {G : Hp} {v : V} {d : D} (h : Dt K G v d) (e : flatD d = true) : ∀ {vs : List V} {ds : List D}, DtAll K G vs ds → ds.all flatD = true → vs.all flatV = true ∧ inV v vs = ds.any fun z => PyData.eqv z d
  | [], [], _, _ => ⟨rfl, rfl⟩
  | [], _ :: _, k, _ => by cases k
  | _ :: _, [], k, _ => by cases k
  | u :: vs, f :: ds, k, z => by
    cases k with
    | cons k1 k2 =>
      have z' : flatD f = true ∧ ds.all flatD = true := by simpa using z
      obtain ⟨i1, i2⟩ := inV_of h e k2 z'.2
      refine ⟨by simp only [List.all_cons, flatV_of k1 z'.1, i1]; rfl, ?_⟩
      show (eqV u v || inV v vs) = (PyData.eqv f d || ds.any fun z => PyData.eqv z d)
      rw [i2, eqV_of k1 h z'.1 e]
theorem RJ_in {neg : Bool} {x y : D} {ds : List D} (hy : seqOf y = some ds) (hx : flatD x = true) (ha : ds.all flatD = true) (q : Φ (.bool (if neg then !(ds.any fun z => PyData.eqv z x) else ds.any fun z => PyData.eqv z x)) δ) : RJ X (rIn X.K neg) x y δ Φ := fun F σ G H Q v u r x1 y1 k => by
  obtain ⟨a, us, rfl, hs, hd⟩ := seq_of y1 hy
  obtain ⟨i1, i2⟩ := inV_of x1 hx hd ha
  refine ⟨a, us, rfl, ?_, flatV_of x1 hx, i1, ?_⟩
  · rcases hs with hs | hs
    · exact .inl (r.ext.seq hs)
    · exact .inr (Same.seqT r.ext hs)
  · rw [i2]
    exact k _ _ δ G H r (Same.refl G) (.bl _) q
theorem RJ_inD {x : D} {ds : List D} (hx : SeqAt.shaped x = true) (hy : SeqAt.shaped (.list ds) = true) (q : Φ (.bool (ds.any fun z => PyData.eqv z x)) δ) : RJ X (rInD X.K) x (.list ds) δ Φ := fun F σ G H Q v u r x1 y1 k =>
  ⟨x, ds, Dt.dp x v (SeqAt.canLay_of_shaped hx) (Dt.mono r.ext _ _ x1), Dt.dp _ u (SeqAt.canLay_of_shaped hy) (Dt.mono r.ext _ _ y1), hx, hy, k _ _ δ G H r (Same.refl G) (.bl _) q⟩
theorem RJ_notInD {x : D} {ds : List D} (hx : SeqAt.shaped x = true) (hy : SeqAt.shaped (.list ds) = true) (q : Φ (.bool (!ds.any fun z => PyData.eqv z x)) δ) : RJ X (rNotInD X.K) x (.list ds) δ Φ := fun F σ G H Q v u r x1 y1 k =>
  ⟨x, ds, Dt.dp x v (SeqAt.canLay_of_shaped hx) (Dt.mono r.ext _ _ x1), Dt.dp _ u (SeqAt.canLay_of_shaped hy) (Dt.mono r.ext _ _ y1), hx, hy, k _ _ δ G H r (Same.refl G) (.bl _) q⟩
/-! ### + and * of lists, tuples -/
theorem JO_bin {op : Operator} {r : R2} (ho : OpR X (binaryOp op) r) (h : J X a δ fun x δ1 => J X b δ1 fun y δ2 => ∀ (F : Hp) (σ : L2.St) (G H : Hp) (Q : VK) (v u : V), Rel X.K F σ G H δ2 → Dt X.K G v x → Dt X.K G u y →
    (∀ p us xs δ' G' H', Rel X.K (upd F p (.lst us)) σ G' H' δ' → F p = none → Same G G' → DtAll X.K G' us xs → Ω xs δ' → Q (.ref p) H') → r v u H Q) : JO X (.BinOp a op b pos) δ Ω := fun F σ G H Q rl k =>
  U_of (pe_op ho pe_U pe_U) (h F σ G H _ rl fun v x δ1 G1 H1 r1 s1 x1 q1 => q1 F σ G1 H1 _ r1 fun u y δ2 G2 H2 r2 s2 x2 q2 =>
    q2 F σ G2 H2 Q v u r2 (Dt.mono s2 _ _ x1) x2 fun p us xs δ3 G3 H3 r3 f3 s3 x3 q3 => k p us xs δ3 G3 H3 r3 f3 ((s1.trans s2).trans s3) x3 q3)
/-- + of new lists -/
theorem JO_cat (h : JO X a δ fun xs δ1 => JO X b δ1 fun ys δ2 => xs.length + ys.length ≤ 1000000 ∧ Ω (xs ++ ys) δ2) : JO X (.BinOp a .Add b pos) δ Ω := fun F σ G H Q rl kk =>
  U_of (pe_op op_cat pe_U pe_U) (h F σ G H _ rl fun p us xs δ1 G1 H1 r1 f1 s1 x1 q1 => q1 (upd F p (.lst us)) σ G1 H1 _ r1 fun p2 ws ys δ2 G2 H2 r2 f2 s2 x2 q2 => by
    have np : p ≠ p2 := fun e => by
      rw [← e, upd_same] at f2
      cases f2
    have h1 := (r2.frm p (.lst us) (by rw [upd_ne np]; exact upd_same)).2
    obtain ⟨g0, h0⟩ := r2.frm p2 _ upd_same
    have t1 : Same G2 (upd G2 p2 (.lst ws)) := same_new g0
    have r3 := r2.freezeF f2
    obtain ⟨g3, _⟩ := r3.frm p _ upd_same
    have t2 : Same (upd G2 p2 (.lst ws)) (upd (upd G2 p2 (.lst ws)) p (.lst us)) := same_new g3
    have r4 := r3.freezeF f1
    refine ⟨p, p2, us, ws, rfl, rfl, h1, h0, ?_, fun p' hp' => ?_⟩
    · rw [x1.length, x2.length]
      exact Nat.le_trans q2.1 (by decide)
    · exact kk p' _ _ δ2 _ _ (r4.newF hp') (r4.fnone hp') (((s1.trans s2).trans t1).trans t2) ((DtAll.mono ((s2.trans t1).trans t2) _ _ x1).append (DtAll.mono (t1.trans t2) _ _ x2)) q2.2)
theorem JO_catN {x : Str} {pp : Pos} {xs : List D} (i : Nat) (hs : δ[i]? = some (.own xs)) (h : JO X b δ fun ys δ1 => δ1[i]? = some (.own xs) ∧ xs.length + ys.length ≤ 1000000 ∧ Ω (xs ++ ys) δ1) (hN : X.N[i]? = some x := by rfl) (hv : Vis X.env.scope x := by first | exact Or.inl rfl | exact Or.inr (Or.inl rfl) | exact Or.inr (Or.inr rfl))
    (hd : (x == ("__debug__" : Str)) = false := by decide) (hcd : (x == ("__classdict__" : Str)) = false := by decide) : JO X (.BinOp (.Name x pp) .Add b pos) δ Ω := fun F σ G H Q rl kk => by
  obtain ⟨c, us0, e1, _⟩ := rl.slo i _ hs
  refine U_of (pe_op op_cat (pe_var hN hv hd hcd) pe_U) ⟨.ref c, e1, h F σ G H _ rl fun p2 ws ys δ1 G1 H1 r1 f1 s1 x1 q1 => ?_⟩
  obtain ⟨hi, hl, q⟩ := q1
  obtain ⟨c', us, e2, g2, f2, h2, x2⟩ := r1.slo i _ hi
  have ec : c' = c := by
    rw [e1] at e2
    cases e2
    rfl
  subst ec
  obtain ⟨g0, h0⟩ := r1.frm p2 _ upd_same
  have t1 : Same G1 (upd G1 p2 (.lst ws)) := same_new g0
  have r3 := r1.freezeF f1
  refine ⟨c', p2, us, ws, rfl, rfl, h2, h0, ?_, fun p' hp' => ?_⟩
  · rw [x2.length, x1.length]
    exact Nat.le_trans hl (by decide)
  · exact kk p' _ _ δ1 _ _ (r3.newF hp') (r3.fnone hp') (s1.trans t1) ((DtAll.mono t1 _ _ x2).append (DtAll.mono t1 _ _ x1)) q
theorem JO_rep (h : JO X a δ fun xs δ1 => J X b δ1 fun y δ2 => ∃ k, y = .int k ∧ 0 ≤ k ∧ k ≤ 1000 ∧ xs.length ≤ 1000 ∧ Ω (List.replicate k.toNat xs).flatten δ2) : JO X (.BinOp a .Mult b pos) δ Ω := fun F σ G H Q rl kk =>
  U_of (pe_op op_rep pe_U pe_U) (h F σ G H _ rl fun p us xs δ1 G1 H1 r1 f1 s1 x1 q1 => q1 (upd F p (.lst us)) σ G1 H1 _ r1 fun u y δ2 G2 H2 r2 s2 x2 q2 => by
    obtain ⟨k, rfl, l0, l1, l2, q⟩ := q2
    cases x2
    obtain ⟨g0, h0⟩ := r2.frm p _ upd_same
    have x3 := DtAll.mono (s2.trans (same_new (u := .lst us) g0)) _ _ x1
    have r3 := r2.freezeF f1
    refine ⟨p, k, us, rfl, rfl, h0, by omega, by omega, ?_, fun p' hp' => ?_⟩
    · rw [x1.length]
      exact Nat.le_trans (Nat.mul_le_mul l2 (by omega : k.toNat ≤ 1000)) (by decide)
    · exact kk p' _ _ δ2 _ _ (r3.newF hp') (r3.fnone hp') ((s1.trans s2).trans (same_new g0)) (x3.rep _) q)
theorem J_repT (h : J X a δ fun x δ1 => J X b δ1 fun y δ2 => ∃ xs k, x = .tuple xs ∧ y = .int k ∧ xs ≠ [] ∧ 2 ≤ k ∧ k ≤ 1000 ∧ xs.length ≤ 1000 ∧ Φ (.tuple (List.replicate k.toNat xs).flatten) δ2) : J X (.BinOp a .Mult b pos) δ Φ :=
  J_bin op_repT (h.imp fun x δ1 h1 => h1.imp fun y δ2 ⟨xs, j, e1, e2, l0, l1, l2, l3, q⟩ F σ G H Q v u r x1 y1 k => by
    subst e1 e2
    cases y1
    cases x1 with
    | tup a1 a2 =>
      refine ⟨_, j, _, rfl, rfl, Same.seqT r.ext a1, ?_, l1, l2, by rw [a2.length]; exact l3, fun p hp => ?_⟩
      · intro z
        have := a2.length
        rw [z] at this
        exact l0 (List.eq_nil_of_length_eq_zero this.symm)
      · exact k (.ref p) _ δ2 _ _ (r.new hp) (same_new (r.gnone hp)) (.tup (SqT.of upd_same) (DtAll.mono (same_new (r.gnone hp)) _ _ (a2.rep _))) q)
/-! ### slices -/
def cutD (xs : List D) (lo hi : Option Int) : List D := (xs.drop (HT.sIx xs.length 0 lo)).take (HT.sIx xs.length xs.length hi - HT.sIx xs.length 0 lo)
theorem cut_of {K : PySem.W.Frag} {G : Hp} {vs : List V} {xs : List D} (h : DtAll K G vs xs) (lo hi : Option Int) : DtAll K G (cutV vs lo hi) (cutD xs lo hi) := by
  unfold cutV cutD
  rw [h.length]
  exact (h.drop _).take _
/-- an optional bound: written, or left out -/
def UO (X : Cx) : Option Expr → TO
  | none => tNoPart
  | some e => tPart (U X e)
theorem po_U {o : Option Expr} : PO X o (UO X o) := by
  cases o with
  | none => exact po_none
  | some e => exact po_some pe_U
def JP (X : Cx) (o : Option Expr) (δ : List Sl) (Φ : Option Int → List Sl → Prop) : Prop :=
  ∀ (F : Hp) (σ : L2.St) (G H : Hp) (Q : Option Int → Hp → Prop), Rel X.K F σ G H δ → (∀ i δ' G' H', Rel X.K F σ G' H' δ' → Same G G' → Φ i δ' → Q i H') → UO X o σ H Q
theorem JP_none {Θ : Option Int → List Sl → Prop} (q : Θ none δ) : JP X none δ Θ := fun F σ G H Q r k => k none δ G H r (Same.refl G) q
theorem JP_some {Θ : Option Int → List Sl → Prop} (h : J X e δ fun d δ1 => ∃ i, d = .int i ∧ Θ (some i) δ1) : JP X (some e) δ Θ := fun F σ G H Q r k => h F σ G H _ r fun v d δ1 G1 H1 r1 s1 x1 ⟨i, e1, q⟩ => by
  subst e1
  cases x1
  exact ⟨i, rfl, k (some i) δ1 G1 H1 r1 s1 q⟩
theorem JO_slice {lo hi : Option Expr} (h : J X e δ fun d δ1 => JP X lo δ1 fun l δ2 => JP X hi δ2 fun u δ3 => ∃ xs, d = .list xs ∧ Ω (cutD xs l u) δ3) : JO X (.Subscript e (.Slice lo hi none p2) pos) δ Ω := fun F σ G H Q rl k =>
  U_of (pe_slice sl_list pe_U po_U po_U) (h F σ G H _ rl fun v d δ1 G1 H1 r1 s1 x1 q1 => q1 F σ G1 H1 _ r1 fun l δ2 G2 H2 r2 s2 q2 => q2 F σ G2 H2 _ r2 fun u δ3 G3 H3 r3 s3 ⟨xs, e1, q3⟩ => by
    subst e1
    have x3 := Dt.mono (s2.trans s3) _ _ x1
    cases x3 with
    | lst h1 h2 => exact ⟨_, _, rfl, Same.seq r3.ext h1, fun p hp => k p _ _ δ3 G3 _ (r3.newF hp) (r3.fnone hp) ((s1.trans s2).trans s3) (cut_of h2 l u) q3⟩)
/-- of a list or a tuple (of a tuple not the whole) -/
def likeD : D → List D → D
  | .list _, ys => .list ys
  | _, ys => .tuple ys
theorem J_slice {lo hi : Option Expr} (h : J X e δ fun d δ1 => JP X lo δ1 fun l δ2 => JP X hi δ2 fun u δ3 => ∃ xs, seqOf d = some xs ∧ ¬ (HT.sIx xs.length 0 l = 0 ∧ HT.sIx xs.length xs.length u = xs.length) ∧ Φ (likeD d (cutD xs l u)) δ3) : J X (.Subscript e (.Slice lo hi none p2) pos) δ Φ := fun F σ G H Q rl k =>
  U_of (pe_slice (SlR.or sl_list sl_tup) pe_U po_U po_U) (h F σ G H _ rl fun v d δ1 G1 H1 r1 s1 x1 q1 => q1 F σ G1 H1 _ r1 fun l δ2 G2 H2 r2 s2 q2 => q2 F σ G2 H2 _ r2 fun u δ3 G3 H3 r3 s3 ⟨xs, e1, nw, q3⟩ => by
    have x3 := Dt.mono (s2.trans s3) _ _ x1
    cases x3 with
    | lst h1 h2 =>
      cases e1
      exact .inl ⟨_, _, rfl, Same.seq r3.ext h1, fun p hp => k (.ref p) _ δ3 _ _ (r3.new hp) (((s1.trans s2).trans s3).trans (same_new (r3.gnone hp))) (.lst (SqL.of upd_same) (DtAll.mono (same_new (r3.gnone hp)) _ _ (cut_of h2 l u))) q3⟩
    | tup h1 h2 =>
      cases e1
      exact .inr ⟨_, _, rfl, Same.seqT r3.ext h1, by rw [h2.length]; exact nw, fun p hp => k (.ref p) _ δ3 _ _ (r3.new hp) (((s1.trans s2).trans s3).trans (same_new (r3.gnone hp))) (.tup (SqT.of upd_same) (DtAll.mono (same_new (r3.gnone hp)) _ _ (cut_of h2 l u))) q3⟩
    | _ => cases e1)

/-! ### what is walked -/
def ItOk (K : PySem.W.Frag) (G : Hp) (J : It) (items : List D) : Prop := items.length ≤ sizeLine ∧
  (∀ F σ G' H δ i, Rel K F σ G' H δ → Same G G' → i < items.length → J.go i H) ∧
  (∀ F σ G' H δ, Rel K F σ G' H δ → Same G G' → J.stop items.length H) ∧
  (∀ F σ G' H δ i x H', Rel K F σ G' H δ → Same G G' → i < items.length → J.yld i H x H' → ∃ d G'', items[i]? = some d ∧ Rel K F σ G'' H' δ ∧ Same G' G'' ∧ Dt K G'' x d)
theorem ItOk.mono {K : PySem.W.Frag} {G G1 : Hp} {J : It} {items : List D} (h : ItOk K G J items) (s : Same G G1) : ItOk K G1 J items :=
  ⟨h.1, fun F σ G' H δ i r s' => h.2.1 F σ G' H δ i r (s.trans s'), fun F σ G' H δ r s' => h.2.2.1 F σ G' H δ r (s.trans s'), fun F σ G' H δ i x H' r s' => h.2.2.2 F σ G' H δ i x H' r (s.trans s')⟩
def UI (X : Cx) (tg iter : Expr) : TI := fun σ H R => ∀ pins s, Inv X pins σ H s → wpAny (model X.prog X.w) X.A (eval iter X.env) (fun v s1 => wpAny (model X.prog X.w) X.A (pyIter v) (PIE X pins σ tg R) X.xe s1) X.xe s
theorem pi_U {tg iter : Expr} : PI X tg iter (UI X tg iter) := ⟨fun pins s σ H R I h => h pins s I⟩
theorem UI_of {tg iter : Expr} {wi : TI} (h : PI X tg iter wi) {σ : L2.St} {H : Hp} {R : It → Hp → Prop} (q : wi σ H R) : UI X tg iter σ H R := fun pins s I => h.run pins s σ H R I q
def JI (X : Cx) (tg iter : Expr) (δ : List Sl) (Φ : List D → List Sl → Prop) : Prop :=
  ∀ (F : Hp) (σ : L2.St) (G H : Hp) (R : It → Hp → Prop), Rel X.K F σ G H δ →
    (∀ J items δ' G' H', Rel X.K F σ G' H' δ' → Same G G' → ItOk X.K G' J items → Φ items δ' → R J H') → UI X tg iter σ H R
/-- a list, a tuple or a text -/
def iAny (K : PySem.W.Frag) (tl : TE) : TI := fun σ H R => tl σ H fun x H1 => (∃ a xs, x = .ref a ∧ SqL K H1 a xs ∧ (xs.length ≤ sizeLine → R (Itl K a) H1)) ∨ (∃ a xs, x = .ref a ∧ SqT K H1 a xs ∧ (xs.length ≤ sizeLine → R (Itt K a) H1)) ∨ (∃ z, x = .str z ∧ R (Its z) H1)
theorem pi_any {tg l : Expr} {tl : TE} (hl : PE X l tl) : PI X tg l (iAny X.K tl) := by
  refine ⟨fun pins s σ H R I h => ?_⟩
  refine thn (hl.run pins s σ H _ I h) fun v s1 ⟨x, H1, I1, r1, q1⟩ => ?_
  have far : ∀ b ∈ [s1.heap.objs.size], FpOk X pins H1 b := fun b hb => by
    have e : b = s1.heap.objs.size := by simpa using hb
    subst e
    exact I1.fpOk (Nat.le_refl _) (I1.hok.fresh (Nat.le_refl _))
  rcases q1 with ⟨a, xs, e, hq, q⟩ | ⟨a, xs, e, hq, q⟩ | ⟨z, e, q⟩
  · subst e
    cases r1
    obtain ⟨its, rv, pl, hz⟩ := I1.list hq
    exact wpAny_pyIter_list pl.isList ⟨_, [s1.heap.objs.size], _, _, H1, rfl, I1.kept (t' := s1.toks) fun b o e => Heap.get?_push_of_some _ e, turn_list a _, ⟨_, Heap.get?_push_size _ rfl, rfl, rfl⟩, far, q hz⟩
  · subst e
    cases r1
    obtain ⟨its, rv, pl, hz⟩ := I1.tuple hq
    exact wpAny_pyIter_tuple (show s1.heap.IsTuple a its.toArray from pl) ⟨_, [s1.heap.objs.size], _, _, H1, rfl, I1.kept (t' := s1.toks) fun b o e => Heap.get?_push_of_some _ e, turn_tuple a _, ⟨_, Heap.get?_push_size _ rfl, rfl, rfl⟩, far, q hz⟩
  · subst e
    obtain ⟨t, rfl⟩ := r1
    cases ha : z.cps.all (· < 128)
    · exact wpAny_pyIter_wide ha (pi_one (tk := s1.toks) I1 _ (turn_str _ z t "str_iterator" (.inr rfl)) ⟨_, Heap.get?_push_size _ rfl, rfl, rfl⟩ q)
    · exact wpAny_pyIter_ascii ha (pi_one (tk := s1.toks) I1 _ (turn_str _ z t "str_ascii_iterator" (.inl rfl)) ⟨_, Heap.get?_push_size _ rfl, rfl, rfl⟩ q)
theorem itok_list {K : PySem.W.Frag} {G : Hp} {a : Addr} {vs : List V} {ds : List D} (h : SqL K G a vs) (hd : DtAll K G vs ds) (hz : vs.length ≤ sizeLine) : ItOk K G (Itl K a) ds := by
  have hl := hd.length
  refine ⟨by omega, fun F σ G' H δ i r s hi => ?_, fun F σ G' H δ r s => ?_, fun F σ G' H δ i x H' r s hi y => ?_⟩
  · exact ⟨vs, vs[i]'(by omega), r.ext.seq (s.seq h), by simp⟩
  · exact ⟨vs, r.ext.seq (s.seq h), by omega⟩
  · obtain ⟨e, y⟩ := y
    subst e
    obtain ⟨d, e1, e2⟩ := hd.getV (y vs (r.ext.seq (s.seq h)))
    exact ⟨d, G', e1, r, Same.refl _, Dt.mono s _ _ e2⟩
theorem itok_tup {K : PySem.W.Frag} {G : Hp} {a : Addr} {vs : List V} {ds : List D} (h : SqT K G a vs) (hd : DtAll K G vs ds) (hz : vs.length ≤ sizeLine) : ItOk K G (Itt K a) ds := by
  have hl := hd.length
  refine ⟨by omega, fun F σ G' H δ i r s hi => ?_, fun F σ G' H δ r s => ?_, fun F σ G' H δ i x H' r s hi y => ?_⟩
  · exact ⟨vs, vs[i]'(by omega), Same.seqT r.ext (Same.seqT s h), by simp⟩
  · exact ⟨vs, Same.seqT r.ext (Same.seqT s h), by omega⟩
  · obtain ⟨e, y⟩ := y
    subst e
    obtain ⟨d, e1, e2⟩ := hd.getV (y vs (Same.seqT r.ext (Same.seqT s h)))
    exact ⟨d, G', e1, r, Same.refl _, Dt.mono s _ _ e2⟩
def signsD (z : Str) : List D := z.cps.toList.map fun c => .str ⟨#[c]⟩
theorem itok_str {K : PySem.W.Frag} {G : Hp} {z : Str} (hz : z.cps.size ≤ sizeLine) : ItOk K G (Its z) (signsD z) := by
  have hl : (signsD z).length = z.cps.size := by simp [signsD]
  refine ⟨by omega, fun F σ G' H δ i r s hi => ?_, fun F σ G' H δ r s => ?_, fun F σ G' H δ i x H' r s hi y => ?_⟩
  · show i < z.cps.size
    omega
  · show z.cps.size ≤ _
    omega
  · obtain ⟨e, c, hc, ex⟩ := y
    subst e ex
    refine ⟨.str ⟨#[c]⟩, G', ?_, r, Same.refl _, .str _⟩
    simp [signsD, hc]
theorem JI_any {tg l : Expr} (h : J X l δ fun d δ1 => ∃ ds, (seqOf d = some ds ∨ ∃ z : Str, d = .str z ∧ ds = signsD z ∧ z.cps.size ≤ sizeLine) ∧ Ω ds δ1) : JI X tg l δ Ω := fun F σ G H R r k =>
  UI_of (pi_any pe_U) (h F σ G H _ r fun v d δ1 G1 H1 r1 s1 x1 ⟨ds, e, q⟩ => by
    rcases e with e | ⟨z, e1, e2, e3⟩
    · cases x1 with
      | lst h1 h2 =>
        cases e
        exact .inl ⟨_, _, rfl, Same.seq r1.ext h1, fun hz => k _ _ δ1 G1 H1 r1 s1 (itok_list h1 h2 hz) q⟩
      | tup h1 h2 =>
        cases e
        exact .inr (.inl ⟨_, _, rfl, Same.seqT r1.ext h1, fun hz => k _ _ δ1 G1 H1 r1 s1 (itok_tup h1 h2 hz) q⟩)
      | _ => cases e
    · subst e1 e2
      cases x1
      exact .inr (.inr ⟨z, rfl, k _ _ δ1 G1 H1 r1 s1 (itok_str e3) q⟩))
def rangeD (lo : Int) (n : Nat) : List D := (List.range n).map fun i => .int (lo + (i : Nat))
theorem itok_range {K : PySem.W.Frag} {G : Hp} {lo : Int} {n : Nat} (hz : n ≤ sizeLine) : ItOk K G (Itr lo n) (rangeD lo n) := by
  have hl : (rangeD lo n).length = n := by simp [rangeD]
  refine ⟨by omega, fun F σ G' H δ i r s hi => ?_, fun F σ G' H δ r s => ?_, fun F σ G' H δ i x H' r s hi y => ?_⟩
  · show i < n
    omega
  · show n ≤ _
    omega
  · obtain ⟨e, ex⟩ := y
    subst e ex
    refine ⟨.int (lo + (i : Nat)), G', ?_, r, Same.refl _, .int _⟩
    have hi' : i < n := by omega
    simp [rangeD, hi']
theorem JI_range1 {tg a : Expr} (h : J X a δ fun d δ1 => ∃ n : Int, d = .int n ∧ n ≤ 1000000 ∧ -1000000 ≤ n ∧ Ω (rangeD 0 n.toNat) δ1) (hm : X.mg "range" = none) (hg : Gl X "range" := by rfl) (hs : starEach [a] X.env = [(false, eval a X.env)] := by rfl) : JI X tg (.Call (.Name "range" p) [a] [] pos) δ Ω := fun F σ G H R r k =>
  UI_of (pi_range1 hg hm (pa_cons pe_U pa_nil hs) hs) (h F σ G H _ r fun v d δ1 G1 H1 r1 s1 x1 ⟨n, e, hn, hn2, q⟩ => by
    subst e
    cases x1
    exact ⟨n, rfl, by omega, by omega, k _ _ δ1 G1 H1 r1 s1 (itok_range (Nat.le_trans (by omega : n.toNat ≤ 1000000) (by decide))) q⟩)
theorem JI_range2 {tg a b : Expr} (h : J X a δ fun d δ1 => J X b δ1 fun d2 δ2 => ∃ m n : Int, d = .int m ∧ d2 = .int n ∧ m ≤ 1000000 ∧ -1000000 ≤ m ∧ n ≤ 1000000 ∧ -1000000 ≤ n ∧ Ω (rangeD m (n - m).toNat) δ2) (hm : X.mg "range" = none) (hg : Gl X "range" := by rfl)
    (hs : starEach [a, b] X.env = [(false, eval a X.env), (false, eval b X.env)] := by rfl) (hs2 : starEach [b] X.env = [(false, eval b X.env)] := by rfl) : JI X tg (.Call (.Name "range" p) [a, b] [] pos) δ Ω := fun F σ G H R r k =>
  UI_of (pi_range2 hg hm (pa_cons pe_U (pa_cons pe_U pa_nil hs2) (by rw [hs, hs2])) hs hs2) (h F σ G H _ r fun v d δ1 G1 H1 r1 s1 x1 q1 => q1 F σ G1 H1 _ r1 fun u d2 δ2 G2 H2 r2 s2 x2 ⟨m, n, e1, e2, h1, h2, h3, h4, q⟩ => by
    subst e1 e2
    cases x1
    cases x2
    exact ⟨m, n, rfl, by omega, k _ _ δ2 G2 H2 r2 (s1.trans s2) (itok_range (Nat.le_trans (by omega : (n - m).toNat ≤ 2000000) (by decide))) q⟩)

end
/-- the slots vs forgotten -/
def wipeD (δ : List Sl) : List Nat → List Sl
  | [] => δ
  | v :: vs => (wipeD δ vs).set v .und
/-- the slots vs of δ put back where they were data -/
def backD (δ : List Sl) : List Nat → List Sl → List Sl
  | [], δw => δw
  | v :: vs, δw => (backD δ vs δw).set v (match δ[v]? with
    | some (.dat d) => .dat d
    | _ => .und)
theorem wipe_at (σ : L2.St) : ∀ (vs : List Nat) (j : Nat), (wipe σ vs)[j]? = if j ∈ vs then (σ[j]?.map fun _ => none) else σ[j]?
  | [], j => by simp [wipe]
  | v :: vs, j => by
    show ((wipe σ vs).set v none)[j]? = _
    rw [List.getElem?_set, wipe_length, wipe_at σ vs j]
    by_cases hv : v = j
    · subst hv
      by_cases hl : v < σ.length
      · simp [hl]
      · simp [hl]
    · have hv' : ¬ j = v := fun e => hv e.symm
      simp [hv, hv']
theorem wipe_congr {σ σ' : L2.St} {vs : List Nat} (h : ∀ j, j ∉ vs → σ[j]? = σ'[j]?) (hl : σ.length = σ'.length) : wipe σ vs = wipe σ' vs := by
  apply List.ext_getElem?
  intro j
  rw [wipe_at, wipe_at]
  by_cases hj : j ∈ vs
  · rw [if_pos hj, if_pos hj]
    by_cases h1 : j < σ.length
    · have h2 : j < σ'.length := by omega
      simp [h1, h2]
    · have h2 : ¬ j < σ'.length := by omega
      simp [h1, h2]
  · rw [if_neg hj, if_neg hj]
    exact h j hj
theorem wipe_wipe (σ : L2.St) (vs : List Nat) : wipe (wipe σ vs) vs = wipe σ vs := wipe_congr (fun j hj => by rw [wipe_at, if_neg hj]) (wipe_length _ _)
theorem wipe_set {σ : L2.St} {vs : List Nat} {i : Nat} {o : Option V} (h : i ∈ vs) : wipe (σ.set i o) vs = wipe σ vs := wipe_congr (fun j hj => by
  rw [List.getElem?_set_ne]
  intro e
  exact hj (e ▸ h)) (by simp)
theorem wipeD_length (δ : List Sl) : ∀ vs : List Nat, (wipeD δ vs).length = δ.length
  | [] => rfl
  | v :: vs => by
    show ((wipeD δ vs).set v .und).length = _
    rw [List.length_set, wipeD_length δ vs]
theorem wipeD_at (δ : List Sl) : ∀ (vs : List Nat) (j : Nat), (wipeD δ vs)[j]? = if j ∈ vs then (δ[j]?.map fun _ => .und) else δ[j]?
  | [], j => by simp [wipeD]
  | v :: vs, j => by
    show ((wipeD δ vs).set v .und)[j]? = _
    rw [List.getElem?_set, wipeD_length, wipeD_at δ vs j]
    by_cases hv : v = j
    · subst hv
      by_cases hl : v < δ.length
      · simp [hl]
      · simp [hl]
    · have hv' : ¬ j = v := fun e => hv e.symm
      simp [hv, hv']
theorem backD_length (δ δw : List Sl) : ∀ vs : List Nat, (backD δ vs δw).length = δw.length
  | [] => rfl
  | v :: vs => by
    show ((backD δ vs δw).set v _).length = _
    rw [List.length_set, backD_length δ δw vs]
theorem backD_at (δ δw : List Sl) : ∀ (vs : List Nat) (j : Nat) (s : Sl), (backD δ vs δw)[j]? = some s → (j ∉ vs ∧ δw[j]? = some s) ∨ s = .und ∨ ∃ d, s = .dat d ∧ δ[j]? = some (.dat d)
  | [], j, s, h => .inl ⟨by simp, h⟩
  | v :: vs, j, s, h => by
    have h' : ((backD δ vs δw).set v (match δ[v]? with
      | some (.dat d) => .dat d
      | _ => .und))[j]? = some s := h
    by_cases hv : v = j
    · subst hv
      rw [List.getElem?_set] at h'
      split at h'
      · split at h'
        · have e := Option.some.inj h'
          split at e
          · rename_i d hd
            exact .inr (.inr ⟨d, e.symm, hd⟩)
          · exact .inr (.inl e.symm)
        · cases h'
      · exact absurd rfl (by assumption)
    · rw [List.getElem?_set_ne hv] at h'
      rcases backD_at δ δw vs j s h' with ⟨h1, h2⟩ | h1 | h1
      · exact .inl ⟨by simp only [List.mem_cons, not_or]; exact ⟨fun e => hv e.symm, h1⟩, h2⟩
      · exact .inr (.inl h1)
      · exact .inr (.inr h1)
section
variable {K : PySem.W.Frag} {F G H G1 H1 : Hp} {σ : L2.St} {δ δ1 : List Sl}
theorem Rel.wiped (r : Rel K F σ G H δ) (vs : List Nat) : Rel K F (wipe σ vs) G H (wipeD δ vs) where
  len := by rw [wipe_length, wipeD_length]; exact r.len
  ext := r.ext
  frm := r.frm
  slo := fun i s e => by
    rw [wipeD_at] at e
    rw [wipe_at]
    by_cases hi : i ∈ vs
    · rw [if_pos hi] at e
      cases z : δ[i]? with
      | none => rw [z] at e; cases e
      | some t => rw [z] at e; cases e; trivial
    · rw [if_neg hi] at e
      rw [if_neg hi]
      exact r.slo i s e
  apt := fun i j s t a h1 h2 m1 m2 h3 h4 => by
    rw [wipeD_at] at h1 h2
    rw [wipe_at] at h3 h4
    have ni : i ∉ vs := fun hi => by
      rw [if_pos hi] at h1
      cases z : δ[i]? with
      | none => rw [z] at h1; cases h1
      | some t => rw [z] at h1; cases h1; cases m1
    have nj : j ∉ vs := fun hi => by
      rw [if_pos hi] at h2
      cases z : δ[j]? with
      | none => rw [z] at h2; cases h2
      | some t => rw [z] at h2; cases h2; cases m2
    rw [if_neg ni] at h1 h3
    rw [if_neg nj] at h2 h4
    exact r.apt i j s t a h1 h2 m1 m2 h3 h4
/-- behind a block: the slots that it had for its own are as they were -/
theorem Rel.back {vs : List Nat} {F' : Hp} (r : Rel K F' σ G H δ) (s : Same G G1) (r1 : Rel K F (wipe σ vs) G1 H1 δ1) : Rel K F σ G1 H1 (backD δ vs δ1) where
  len := by
    have h := r1.len
    rw [wipe_length] at h
    rw [backD_length]
    exact h
  ext := r1.ext
  frm := r1.frm
  slo := fun i t e => by
    rcases backD_at δ δ1 vs i t e with ⟨h1, h2⟩ | h1 | ⟨d, h1, h2⟩
    · have k := r1.slo i t h2
      rw [wipe_at, if_neg h1] at k
      exact k
    · subst h1
      trivial
    · subst h1
      obtain ⟨v, k1, k2⟩ := r.slo i _ h2
      exact ⟨v, k1, Dt.mono s _ _ k2⟩
  apt := fun i j u t a h1 h2 m1 m2 h3 h4 => by
    have out : ∀ (x : Nat) (w : Sl), (backD δ vs δ1)[x]? = some w → w.isMut = true → x ∉ vs ∧ δ1[x]? = some w := fun x w k1 k2 => by
      rcases backD_at δ δ1 vs x w k1 with k | k | ⟨d, k, _⟩
      · exact k
      · subst k; cases k2
      · subst k; cases k2
    obtain ⟨a1, a2⟩ := out i u h1 m1
    obtain ⟨b1, b2⟩ := out j t h2 m2
    exact r1.apt i j u t a a2 b2 m1 m2 (by rw [wipe_at, if_neg a1]; exact h3) (by rw [wipe_at, if_neg b1]; exact h4)
end
end DL
end

section
/-! DL4: targets, comprehensions, functions, calls, statements. -/
namespace DL
open PySem PySem.Spec PyProof.Rows L2
def UG (X : Cx) (tg : Expr) : TG := fun v σ H Q => ∀ pins s u, Inv X pins σ H s → RelV v u → wpAny (model X.prog X.w) X.A (assign tg X.env u) (fun _ s' => ∃ σ' H', Inv X pins σ' H' s' ∧ Q σ' H') X.xe s
def UGs (X : Cx) (tgs : List Expr) : TGs := fun vs σ H Q => ∀ pins s us, Inv X pins σ H s → Vals vs us → wpAny (model X.prog X.w) X.A (assignInOrder ((assignEach tgs X.env).map (·.2)) us) (fun _ s' => ∃ σ' H', Inv X pins σ' H' s' ∧ Q σ' H') X.xe s
section
variable {X : Cx} {δ : List Sl} {pos p : Pos} {x : Str} {tg : Expr} {tgs : List Expr}
theorem pg_U : PG X tg (UG X tg) := ⟨fun pins s σ H v u Q I r h => h pins s u I r⟩
theorem pgs_U : PGs X tgs (UGs X tgs) := ⟨fun pins s σ H v u Q I r h => h pins s u I r⟩
theorem UG_of {t : TG} (h : PG X tg t) {v : V} {σ : L2.St} {H : Hp} {Q : L2.St → Hp → Prop} (q : t v σ H Q) : UG X tg v σ H Q := fun pins s u I r => h.run pins s σ H v u Q I r q
theorem UGs_of {t : TGs} (h : PGs X tgs t) {vs : List V} {σ : L2.St} {H : Hp} {Q : L2.St → Hp → Prop} (q : t vs σ H Q) : UGs X tgs vs σ H Q := fun pins s us I r => h.run pins s σ H vs us Q I r q
/-- data put into a target; only the slots ns change -/
def JG (X : Cx) (tg : Expr) (ns : List Nat) (d : D) (δ : List Sl) (Φ : List Sl → Prop) : Prop :=
  ∀ (F : Hp) (σ : L2.St) (G H : Hp) (Q : L2.St → Hp → Prop) (v : V), Rel X.K F σ G H δ → Dt X.K G v d →
    (∀ σ' δ' G' H', Rel X.K F σ' G' H' δ' → Same G G' → wipe σ' ns = wipe σ ns → Φ δ' → Q σ' H') → UG X tg v σ H Q
def JGs (X : Cx) (tgs : List Expr) (ns : List Nat) (ds : List D) (δ : List Sl) (Φ : List Sl → Prop) : Prop :=
  ∀ (F : Hp) (σ : L2.St) (G H : Hp) (Q : L2.St → Hp → Prop) (vs : List V), Rel X.K F σ G H δ → DtAll X.K G vs ds →
    (∀ σ' δ' G' H', Rel X.K F σ' G' H' δ' → Same G G' → wipe σ' ns = wipe σ ns → Φ δ' → Q σ' H') → UGs X tgs vs σ H Q
theorem JG_name {ns : List Nat} {d : D} {Φ : List Sl → Prop} (i : Nat) (hN : X.N.Nodup) (q : Φ (δ.set i (.dat d))) (hv : i ∈ ns := by simp) (hi : X.N[i]? = some x := by rfl) (hx : Loc X.env.scope x := by first | exact .inl rfl | exact .inr rfl) (hf : X.fn x = true ∨ X.env.scope.names.lookup x = some .local := by first | exact .inl rfl | exact .inr rfl) :
    JG X (.Name x pos) ns d δ Φ := fun F σ G H Q v r h k => UG_of (pg_name hN hi hx hf) (k _ _ G H (r.set h) (Same.refl G) (wipe_set hv) q)
theorem JGs_nil {ns : List Nat} {Φ : List Sl → Prop} (q : Φ δ) : JGs X [] ns [] δ Φ := fun F σ G H Q vs r h k => by
  cases h
  exact UGs_of pgs_nil ⟨rfl, k _ _ G H r (Same.refl G) rfl q⟩
theorem JGs_cons {ns : List Nat} {Φ : List Sl → Prop} {d : D} {ds : List D} (h : JG X tg ns d δ fun δ1 => JGs X tgs ns ds δ1 Φ) (ha : (assignEach (tg :: tgs) X.env).map (·.2) = assign tg X.env :: (assignEach tgs X.env).map (·.2) := by rfl) : JGs X (tg :: tgs) ns (d :: ds) δ Φ := fun F σ G H Q vs r hv k => by
  cases hv with
  | cons h1 h2 =>
    exact UGs_of (pgs_cons pg_U pgs_U ha) ⟨_, _, rfl, h F σ G H _ _ r h1 fun σ1 δ1 G1 H1 r1 s1 w1 q1 => q1 F σ1 G1 H1 _ _ r1 (DtAll.mono s1 _ _ h2) fun σ2 δ2 G2 H2 r2 s2 w2 q2 => k σ2 δ2 G2 H2 r2 (s1.trans s2) (w2.trans w1) q2⟩
theorem JG_tup {ns : List Nat} {Φ : List Sl → Prop} {ds : List D} {kk : Nat} {n : Nat} (hc : X.calm = true) (h : JGs X tgs ns ds δ Φ) (hl : ds.length = n := by rfl)
    (hn : (assignEach tgs X.env).length = n := by rfl) (hst : (assignEach tgs X.env).findIdx? (·.1) = none := by rfl) : JG X (.Tuple tgs kk pos) ns (.tuple ds) δ Φ := fun F σ G H Q v r hv k => by
  cases hv with
  | tup h1 h2 => exact UG_of (pg_tup hc pgs_U hn hst) ⟨_, _, rfl, Same.seqT r.ext h1, by rw [h2.length]; exact hl, h F σ G H Q _ r h2 k⟩
end
/-! ### comprehensions -/
theorem Rel.growF {K : PySem.W.Frag} {F G H : Hp} {σ : L2.St} {δ : List Sl} {p : Addr} {o o' : HO} (r : Rel K (upd F p o) σ G H δ) : Rel K (upd F p o') σ G (upd H p o') δ := by
  obtain ⟨g0, h0⟩ := r.frm p o upd_same
  refine ⟨r.len, fun b u e => ?_, fun a u e => ?_, fun i s e => ?_, r.apt⟩
  · have n : b ≠ p := fun z => by rw [z, g0] at e; cases e
    rw [upd_ne n]
    exact r.ext b u e
  · by_cases ha : a = p
    · subst ha
      rw [upd_same] at e
      rw [upd_same]
      exact ⟨g0, e⟩
    · rw [upd_ne ha] at e
      have k := r.frm a u (by rw [upd_ne ha]; exact e)
      rw [upd_ne ha]
      exact k
  · have k := r.slo i s e
    cases s with
    | dat d => exact k
    | own ys =>
      obtain ⟨b, us, k1, k2, k3, k4, k5⟩ := k
      have n : b ≠ p := fun z => by rw [z, upd_same] at k3; cases k3
      rw [upd_ne n] at k3
      exact ⟨b, us, k1, k2, by rw [upd_ne n]; exact k3, by rw [upd_ne n]; exact k4, k5⟩
    | pen b c =>
      obtain ⟨k1, k2, k3, c, ns, n, g, k4, k5, k6⟩ := k
      have n' : b ≠ p := fun z => by rw [z, upd_same] at k3; cases k3
      rw [upd_ne n'] at k3
      exact ⟨k1, k2, by rw [upd_ne n']; exact k3, c, ns, n, g, by rw [upd_ne n']; exact k4, k5, k6⟩
    | und => trivial
def IsBlk (X : Cx) (scope : Scope) (Y : Cx) : Prop := ∃ (s : Shared) (H : Hp) (C : Addr) (cl : List (Str × Addr)) (fp : List Addr), Y = X.blk s H scope (compEnvC scope cl C X.env) fp
section
variable {X : Cx} {δ : List Sl} {pos p2 : Pos} {elt tg iter : Expr} {ifs : List Expr} {scope : Scope} {own : List (Str × Nat)} {Ω : List D → List Sl → Prop}
theorem JO_lc (hc : X.calm = true) (hN : X.N.Nodup) (ok : BlkOk X.N X.env.scope scope own)
    (hi : JI X tg iter δ fun items δ1 => ∃ I : Nat → List D → List Sl → Prop, I 0 [] (wipeD δ1 (own.map (·.2))) ∧
      (∀ k d acc δ2, items[k]? = some d → I k acc δ2 → ∀ Y, IsBlk X scope Y → JG Y tg (own.map (·.2)) d δ2 fun δ3 => ∀ Y, IsBlk X scope Y → JTs Y ifs δ3 fun b δ4 =>
        (b = true → ∀ Y, IsBlk X scope Y → J Y elt δ4 fun e δ5 => I (k + 1) (acc ++ [e]) (wipeD δ5 (own.map (·.2)))) ∧ (b = false → I (k + 1) acc (wipeD δ4 (own.map (·.2))))) ∧
      (∀ acc δ2, I items.length acc δ2 → Ω acc (backD δ1 (own.map (·.2)) δ2)))
    (hs : ∀ x, foldedSetIterable iter X.env x = pure x := by intro _; rfl) : JO X (.ListComp elt [⟨tg, iter, ifs, 0⟩] scope pos) δ Ω := by
  intro F σ G H Q r k
  refine U_of (pe_lc (g := fun v σ H Q => ∀ Y, IsBlk X scope Y → UG Y tg v σ H Q) (tt := fun σ H Q => ∀ Y, IsBlk X scope Y → UTs Y ifs σ H Q) (te := fun σ H Q => ∀ Y, IsBlk X scope Y → U Y elt σ H Q) hc hN pi_U ok
    (fun s H C cl fp => ⟨fun pins s' σ H v u Q I rv h => h _ ⟨s, _, C, cl, fp, rfl⟩ pins s' u I rv⟩) (fun s H C cl fp => ⟨fun pins s' σ H Q I h => h _ ⟨s, _, C, cl, fp, rfl⟩ pins s' I⟩)
    (fun s H C cl fp => ⟨fun pins s' σ H Q I h => h _ ⟨s, _, C, cl, fp, rfl⟩ pins s' I⟩) hs) ?_
  refine hi F σ G H _ r fun J items δ1 G1 H1 r1 s1 io q1 => ?_
  obtain ⟨I, h0, ht, he⟩ := q1
  intro Dl hD
  refine ⟨fun i m H => m = items.length - i ∧ i ≤ items.length ∧ ∃ acc accV δ2 G2, Rel X.K (upd F Dl (.lst accV)) (wipe σ (own.map (·.2))) G2 H δ2 ∧ Same G1 G2 ∧ DtAll X.K G2 accV acc ∧ accV.length ≤ i ∧ I i acc δ2,
    ⟨_, rfl, Nat.zero_le _, [], [], _, G1, (r1.wiped _).newF hD, Same.refl _, .nil, Nat.le_refl _, h0⟩, ?_⟩
  rintro i m H2 ⟨rfl, hle, acc, accV, δ2, G2, r2, s2, ha, hl, hI⟩
  have fD : F Dl = none := r1.fnone hD
  by_cases hlt : i < items.length
  · refine .inr ⟨io.2.1 _ _ _ _ _ i r2 s2 hlt, fun H' => ∃ acc accV δ2 G2, Rel X.K (upd F Dl (.lst accV)) (wipe σ (own.map (·.2))) G2 H' δ2 ∧ Same G1 G2 ∧ DtAll X.K G2 accV acc ∧ accV.length ≤ i + 1 ∧ I (i + 1) acc δ2,
      fun H' w => ⟨items.length - (i + 1), by omega, rfl, hlt, w⟩, fun x H' y => ?_⟩
    obtain ⟨d, G3, e3, r3, s3, x3⟩ := io.2.2.2 _ _ _ _ _ i x H' r2 s2 hlt y
    intro Y hY
    refine ht i d acc δ2 e3 hI Y hY (upd F Dl (.lst accV)) _ G3 H' _ x (by obtain ⟨s, H0, C, cl, fp, rfl⟩ := hY; exact r3) (by obtain ⟨s, H0, C, cl, fp, rfl⟩ := hY; exact x3) fun σ4 δ4 G4 H4 r4 s4 w4 q4 => ?_
    have KY : Y.K = X.K := by obtain ⟨s, H0, C, cl, fp, rfl⟩ := hY; rfl
    rw [KY] at r4
    refine ⟨w4.trans (wipe_wipe _ _), fun Y2 hY2 => ?_⟩
    have KY2 : Y2.K = X.K := by obtain ⟨s, H0, C, cl, fp, rfl⟩ := hY2; rfl
    refine q4 Y2 hY2 (upd F Dl (.lst accV)) σ4 G4 H4 _ (by rw [KY2]; exact r4) fun b δ5 G5 H5 r5 s5 q5 => ?_
    rw [KY2] at r5
    have w5 : wipe σ4 (own.map (·.2)) = wipe σ (own.map (·.2)) := w4.trans (wipe_wipe _ _)
    cases b with
    | true =>
      refine iteT fun Y3 hY3 => ?_
      have KY3 : Y3.K = X.K := by obtain ⟨s, H0, C, cl, fp, rfl⟩ := hY3; rfl
      refine q5.1 rfl Y3 hY3 (upd F Dl (.lst accV)) σ4 G5 H5 _ (by rw [KY3]; exact r5) fun v e δ6 G6 H6 r6 s6 x6 q6 => ?_
      rw [KY3] at r6 x6
      have hz := io.1
      refine ⟨accV, (r6.frm Dl _ upd_same).2, by omega, acc ++ [e], accV ++ [v], _, G6, ?_, ((((s2.trans s3).trans s4).trans s5).trans s6), ?_, ?_, q6⟩
      · have r7 := (r6.growF (o' := .lst (accV ++ [v]))).wiped (own.map (·.2))
        rw [w5] at r7
        exact r7
      · exact (DtAll.mono (((s3.trans s4).trans s5).trans s6) _ _ ha).append (.cons x6 .nil)
      · rw [List.length_append, List.length_singleton]
        omega
    | false =>
      have r7 := r5.wiped (own.map (·.2))
      rw [w5] at r7
      exact iteF ⟨acc, accV, _, G5, r7, (((s2.trans s3).trans s4).trans s5), DtAll.mono ((s3.trans s4).trans s5) _ _ ha, by omega, q5.2 rfl⟩
  · have e : i = items.length := by omega
    subst e
    exact .inl ⟨io.2.2.1 _ _ _ _ _ r2 s2, k Dl accV acc _ G2 H2 (Rel.back r1 s2 r2) fD (s1.trans s2) ha (he acc δ2 hI)⟩
end
section
variable {X : Cx} {δ : List Sl} {Ψ : Bool → List Sl → Prop} {c : Expr}
theorem JTs_nil (q : Ψ true δ) : JTs X [] δ Ψ := fun F σ G H Q r k => UTs_of pts_nil (k true δ G H r (Same.refl G) q)
theorem JTs_one (h : JT X c δ Ψ) : JTs X [c] δ Ψ := fun F σ G H Q r k => UTs_of (pts_one pt_U) (h F σ G H Q r k)
end
/-- [f(x) for x in xs if p(x)], the element by data alone -/
def pick (p : D → Bool) (f : D → D) (xs : List D) : List D := (xs.filter p).map f
theorem pick_snoc_t {p : D → Bool} {f : D → D} {xs : List D} {k : Nat} {d : D} (h : xs[k]? = some d) (hp : p d = true) : pick p f (xs.take (k + 1)) = pick p f (xs.take k) ++ [f d] := by
  have hk : k < xs.length := (List.getElem?_eq_some_iff.mp h).1
  have e : xs.take (k + 1) = xs.take k ++ [d] := by
    rw [List.take_succ, h]
    rfl
  unfold pick
  rw [e, List.filter_append, List.map_append]
  simp [hp]
theorem pick_snoc_f {p : D → Bool} {f : D → D} {xs : List D} {k : Nat} {d : D} (h : xs[k]? = some d) (hp : p d = false) : pick p f (xs.take (k + 1)) = pick p f (xs.take k) := by
  have e : xs.take (k + 1) = xs.take k ++ [d] := by
    rw [List.take_succ, h]
    rfl
  unfold pick
  rw [e, List.filter_append, List.map_append]
  simp [hp]
section
variable {X : Cx} {δ : List Sl} {pos p2 : Pos} {elt tg iter : Expr} {ifs : List Expr} {scope : Scope} {own : List (Str × Nat)} {Ω : List D → List Sl → Prop}
/-- the block changes nothing that it was not given -/
theorem JO_lcP (hc : X.calm = true) (hN : X.N.Nodup) (ok : BlkOk X.N X.env.scope scope own)
    (hi : JI X tg iter δ fun items δ1 => ∃ (p : D → Bool) (f : D → D), 
      (∀ d, d ∈ items → ∀ Y, IsBlk X scope Y → JG Y tg (own.map (·.2)) d (wipeD δ1 (own.map (·.2))) fun δ3 => wipeD δ3 (own.map (·.2)) = wipeD δ1 (own.map (·.2)) ∧ ∀ Y, IsBlk X scope Y → JTs Y ifs δ3 fun b δ4 => b = p d ∧ wipeD δ4 (own.map (·.2)) = wipeD δ1 (own.map (·.2)) ∧
        (b = true → ∀ Y, IsBlk X scope Y → J Y elt δ4 fun e δ5 => e = f d ∧ wipeD δ5 (own.map (·.2)) = wipeD δ1 (own.map (·.2)))) ∧
      Ω (pick p f items) (backD δ1 (own.map (·.2)) (wipeD δ1 (own.map (·.2)))))
    (hs : ∀ x, foldedSetIterable iter X.env x = pure x := by intro _; rfl) : JO X (.ListComp elt [⟨tg, iter, ifs, 0⟩] scope pos) δ Ω := by
  refine JO_lc hc hN ok (fun F σ G H R r k => hi F σ G H R r fun J items δ1 G1 H1 r1 s1 io q => k J items δ1 G1 H1 r1 s1 io ?_) hs
  obtain ⟨p, f, ht, he⟩ := q
  refine ⟨fun k acc δ2 => acc = pick p f (items.take k) ∧ δ2 = wipeD δ1 (own.map (·.2)), ⟨rfl, rfl⟩, ?_, ?_⟩
  · rintro k d acc δ2 hd ⟨rfl, rfl⟩ Y hY F σ G H Q v r hv q
    refine ht d (List.mem_of_getElem? hd) Y hY F σ G H Q v r hv fun σ' δ3 G' H' r' s' w' h3 => q σ' δ3 G' H' r' s' w' ?_
    intro Y2 hY2 F σ G H Q r kk
    refine h3.2 Y2 hY2 F σ G H Q r fun b δ4 G4 H4 r4 s4 h4 => kk b δ4 G4 H4 r4 s4 ?_
    obtain ⟨e1, e2, h5⟩ := h4
    refine ⟨fun hb Y3 hY3 F σ G H Q r kk => ?_, fun hb => ?_⟩
    · exact h5 hb Y3 hY3 F σ G H Q r fun v e δ5 G5 H5 r5 s5 x5 h6 => kk v e δ5 G5 H5 r5 s5 x5 ⟨by rw [h6.1]; exact (pick_snoc_t hd (by rw [← e1, hb])).symm, h6.2⟩
    · exact ⟨(pick_snoc_f hd (by rw [← e1, hb])).symm, e2⟩
  · rintro acc δ2 ⟨rfl, rfl⟩
    rw [List.take_length]
    exact he
end
end DL
end

section
/-! DL5: functions, calls, statements. -/
namespace DL
open PySem PySem.Spec PyProof.Rows L2
/-- room, and nothing that guards a text of itself is running -/
structure GR (k : Nat) (A : Around) : Prop where
  room : Room k A
  gd : A.guards = some []
theorem GR.mono {j k : Nat} {A : Around} (h : GR k A) (l : j ≤ k) : GR j A := ⟨h.room.mono l, h.gd⟩
/-- a promise over slots: the arguments' slots, what is wanted of the value and of the arguments' slots behind -/
abbrev Spc := List Sl → (D → List Sl → Prop) → Prop
def spD (K : PySem.W.Frag) (sp : Spc) (vs : List V) (H : Hp) (Q : VK) : Prop := ∃ F G as Φ, Rel K F (vs.map some) G H as ∧ sp as Φ ∧
  ∀ v d as' G' H', Rel K F (vs.map some) G' H' as' → Same G G' → Dt K G' v d → Φ d as' → Q v H'
structure FnG (P : Program) (w : World) (K : PySem.W.Frag) (mg : Str → Option Value) (base : Heap) (k : Nat) (f : Addr) (fd : FuncData) (ps : List Str) (sp : Spc) : Prop where
  run : ∀ (A : Around) (outer : List Env) (s : Shared) (H : Hp) (args : Args) (us : List Value) (vs : List V) (Q : VK), GR k A → Env0 P w K mg base A outer s H → BindsTo s fd args (ps.zip us) → Vals vs us → vs.length = ps.length → spD K sp vs H Q →
    codeAny (model P w) A (.call (.ref f) args) (CR CX0 outer P w H s Q E0) s
/-- the arguments' slots behind a body: those that were pens as they are then -/
def keepP : List Sl → List Sl → Prop
  | .pen p _ :: r, s :: r' => (∃ b, s = .pen p b) ∧ keepP r r'
  | _ :: r, _ :: r' => keepP r r'
  | [], _ => True
  | _ :: _, [] => False
def retP : List Sl → List Sl → List Sl
  | .pen _ _ :: r, s :: r' => s :: retP r r'
  | t :: r, _ :: r' => t :: retP r r'
  | [], _ => []
  | t, [] => t
theorem keepP_at : ∀ {as δ : List Sl} {i : Nat} {p : Addr} {b : PB}, keepP as δ → as[i]? = some (.pen p b) → ∃ c, δ[i]? = some (.pen p c) ∧ (retP as δ)[i]? = some (.pen p c)
  | [], _, i, p, b, _, e => by simp at e
  | t :: r, [], _, _, _, h, _ => by cases t <;> cases h
  | .pen q c :: r, s :: r', 0, p, b, h, e => by
    obtain ⟨⟨c', h1⟩, _⟩ := h
    simp at e
    obtain ⟨e1, e2⟩ := e
    subst e1 h1
    exact ⟨c', rfl, rfl⟩
  | .dat d :: r, s :: r', 0, p, b, h, e => by simp at e
  | .own d :: r, s :: r', 0, p, b, h, e => by simp at e
  | .und :: r, s :: r', 0, p, b, h, e => by simp at e
  | .pen q c :: r, s :: r', i + 1, p, b, h, e => keepP_at (i := i) h.2 (by simpa using e)
  | .dat d :: r, s :: r', i + 1, p, b, h, e => keepP_at (as := r) (i := i) h (by simpa using e)
  | .own d :: r, s :: r', i + 1, p, b, h, e => keepP_at (as := r) (i := i) h (by simpa using e)
  | .und :: r, s :: r', i + 1, p, b, h, e => keepP_at (as := r) (i := i) h (by simpa using e)
theorem retP_other : ∀ {as δ : List Sl} {i : Nat} {t : Sl}, (retP as δ)[i]? = some t → (∃ p b, as[i]? = some (.pen p b)) ∨ as[i]? = some t
  | [], _, i, t, e => by simp [retP] at e
  | s :: r, [], _, _, e => by cases s <;> exact .inr e
  | .pen q c :: r, s :: r', 0, t, e => .inl ⟨q, c, rfl⟩
  | .dat d :: r, s :: r', 0, t, e => .inr e
  | .own d :: r, s :: r', 0, t, e => .inr e
  | .und :: r, s :: r', 0, t, e => .inr e
  | .pen q c :: r, s :: r', i + 1, t, e => retP_other (as := r) (i := i) e
  | .dat d :: r, s :: r', i + 1, t, e => retP_other (as := r) (i := i) e
  | .own d :: r, s :: r', i + 1, t, e => retP_other (as := r) (i := i) e
  | .und :: r, s :: r', i + 1, t, e => retP_other (as := r) (i := i) e
theorem retP_length : ∀ {as δ : List Sl}, (retP as δ).length = as.length
  | [], δ => by simp [retP]
  | s :: r, [] => by cases s <;> rfl
  | .pen q c :: r, s :: r' => by show (s :: retP r r').length = _; simp [retP_length (as := r) (δ := r')]
  | .dat d :: r, s :: r' => by show (_ :: retP r r').length = _; simp [retP_length (as := r) (δ := r')]
  | .own d :: r, s :: r' => by show (_ :: retP r r').length = _; simp [retP_length (as := r) (δ := r')]
  | .und :: r, s :: r' => by show (_ :: retP r r').length = _; simp [retP_length (as := r) (δ := r')]
/-- arguments are data or pens -/
def argsOk (as : List Sl) : Prop := ∀ (i : Nat) (xs : List D), as[i]? ≠ some (.own xs)
section
variable {K : PySem.W.Frag} {F G G' H H' : Hp} {σ σ' : L2.St} {as δ : List Sl}
/-- at the end of a body: what the caller knows -/
theorem Rel.ret (r : Rel K F σ G H as) (ao : argsOk as) (s : Same G G') (r' : Rel K F σ' G' H' δ) (kp : keepP as δ) : Rel K F σ G' H' (retP as δ) where
  len := by rw [retP_length]; exact r.len
  ext := r'.ext
  frm := r'.frm
  slo := fun i t e => by
    rcases retP_other e with ⟨p, b, h⟩ | h
    · obtain ⟨c, h1, h2⟩ := keepP_at kp h
      rw [e] at h2
      cases h2
      obtain ⟨k1, _⟩ := r.slo i _ h
      obtain ⟨_, k2, k3, k4⟩ := r'.slo i _ h1
      exact ⟨k1, k2, k3, k4⟩
    · cases t with
      | dat d =>
        obtain ⟨v, k1, k2⟩ := r.slo i _ h
        exact ⟨v, k1, Dt.mono s _ _ k2⟩
      | own xs => exact absurd h (ao i xs)
      | pen p b =>
        obtain ⟨c, h1, h2⟩ := keepP_at kp h
        rw [e] at h2
        cases h2
        obtain ⟨k1, _⟩ := r.slo i _ h
        obtain ⟨_, k2, k3, k4⟩ := r'.slo i _ h1
        exact ⟨k1, k2, k3, k4⟩
      | und => trivial
  apt := fun i j u t a h1 h2 m1 m2 h3 h4 => by
    have back : ∀ (x : Nat) (w : Sl), (retP as δ)[x]? = some w → w.isMut = true → ∃ w', as[x]? = some w' ∧ w'.isMut = true := fun x w k1 k2 => by
      rcases retP_other k1 with ⟨p, b, h⟩ | h
      · exact ⟨_, h, rfl⟩
      · exact ⟨w, h, k2⟩
    obtain ⟨u', e1, n1⟩ := back i u h1 m1
    obtain ⟨t', e2, n2⟩ := back j t h2 m2
    exact r.apt i j u' t' a e1 e2 n1 n2 h3 h4
/-- ahead of a body: the other names are not set yet -/
theorem Rel.start {vs : List V} {N : List Str} (r : Rel K F (vs.map some) G H as) : Rel K F (L2.start N vs) G H (as ++ List.replicate (N.length - vs.length) .und) where
  len := by
    have h := r.len
    rw [List.length_map] at h
    simp [L2.start, h]
  ext := r.ext
  frm := r.frm
  slo := fun i t e => by
    have hl := r.len
    by_cases hi : i < as.length
    · rw [List.getElem?_append_left hi] at e
      have k := r.slo i t e
      have e2 : (L2.start N vs)[i]? = (vs.map some)[i]? := by
        unfold L2.start
        rw [List.getElem?_append_left (by omega)]
      rw [e2]
      exact k
    · rw [List.getElem?_append_right (by omega)] at e
      have e' := List.mem_of_getElem? e
      have := List.eq_of_mem_replicate e'
      subst this
      trivial
  apt := fun i j u t a h1 h2 m1 m2 h3 h4 => by
    have hl := r.len
    have low : ∀ (x : Nat) (w : Sl), (as ++ List.replicate (N.length - vs.length) .und)[x]? = some w → w.isMut = true → x < as.length := fun x w k1 k2 => by
      by_cases hx : x < as.length
      · exact hx
      · rw [List.getElem?_append_right (by omega)] at k1
        have := List.eq_of_mem_replicate (List.mem_of_getElem? k1)
        subst this
        cases k2
    have l1 := low i u h1 m1
    have l2 := low j t h2 m2
    rw [List.getElem?_append_left l1] at h1
    rw [List.getElem?_append_left l2] at h2
    unfold L2.start at h3 h4
    rw [List.getElem?_append_left (by omega)] at h3
    rw [List.getElem?_append_left (by omega)] at h4
    exact r.apt i j u t a h1 h2 m1 m2 h3 h4
end
/-- the context of a def's body -/
abbrev bodyX (P : Program) (w : World) (K : PySem.W.Frag) (mg : Str → Option Value) (base : Heap) (N : List Str) (qual : Str) (scope : Scope) (f : Addr) (cdv : Value) (A : Around) (outer : List Env) (s : Shared) (H : Hp) : Cx := (cxOf CX0 P w K mg base N qual scope f cdv A outer s H E0).nox
section
variable {P : Program} {w : World} {K : PySem.W.Frag} {mg : Str → Option Value} {base : Heap}
theorem fnG_of {k : Nat} {f : Addr} {name qual : Str} {params : Arguments} {body : List Stmt} {scope : Scope} {dvs : List V} {kws : List (Str × V)} {fd : FuncData} {N ps : List Str} {sp : Spc} (Fd : FunD K name qual params body scope dvs kws f fd) (S : FnScope N ps scope)
    (hbody : ∀ (cdv : Value) (A : Around) (outer : List Env) (s : Shared) (H : Hp) (as : List Sl) (Φ : D → List Sl → Prop), GR k (A.deeper (envOfC qual scope s.heap.objs.size f cdv)) → sp as Φ → as.length = ps.length →
      argsOk as ∧ JSs (bodyX P w K mg base N qual scope f cdv A outer s H) body (as ++ List.replicate (N.length - as.length) .und) { nx := fun δ => keepP as δ ∧ Φ .none (retP as δ), rt := fun d δ => keepP as δ ∧ Φ d (retP as δ) }) :
    FnG P w K mg base (k + 1) f fd ps sp := by
  obtain ⟨oc, od, dV, kV, doc, pm, an, cdv, ct, osl, rfl, lk, hcd, _, _⟩ := Fd.ex
  refine ⟨fun A outer s H args us vs Q hr e0 hb r hl hsp => ?_⟩
  obtain ⟨F, G, as, Φ, rl, hs, hk⟩ := hsp
  have inK : K.In s.heap := e0.mod.kin.keeps (fun b o e => (e0.bs b o e).1)
  have nl : s.heap.NoLimit := e0.mod.nolimit.keeps (fun b o e => (e0.bs b o e).1)
  have kinds : ∀ y ∈ ps.zip us, scope.names.lookup y.1 = some .local ∨ (scope.names.lookup y.1 = some .cell ∧ ((cellsFrom (s.heap.objs.size + 1) scope.names []).lookup y.1).isSome = true) := by
    intro y hy
    rcases S.par y.1 (List.of_mem_zip hy).1 with q | q
    · exact Or.inl q
    · exact Or.inr ⟨q, PySem.W.cellsFrom_some _ _ _ (Or.inl q)⟩
  refine codeAny_call_function hr.room.depth (inK _ _ lk) rfl S.co S.gen rfl (PySem.W.codeRec_of inK hcd) (hb _ _ _ _ (wpAny_newFunctionEnv_cells S.kind kinds (fun env he s1 x => ?_)))
  subst he
  refine ⟨nl.keeps x.toInCall.keep, codeAny_func ?_⟩
  have la : as.length = vs.length := by
    have h := rl.len
    rw [List.length_map] at h
    exact h.symm
  have gd : GR k (A.deeper (envOfC qual scope s.heap.objs.size f cdv)) := ⟨hr.room.deeper _, hr.gd⟩
  obtain ⟨ao, hJ⟩ := hbody cdv A outer s H as Φ gd hs (la.trans hl)
  have I : Inv (cxOf CX0 P w K mg base N qual scope f cdv A outer s H E0) [] (L2.start N vs) H s1 := inv_start S hr.room.hd e0 hl r x
  have rs := rl.start (N := N)
  rw [← la] at rs
  have ends : EndsOk K F G { nx := fun δ => keepP as δ ∧ Φ .none (retP as δ), rt := fun d δ => keepP as δ ∧ Φ d (retP as δ) } { nx := fun _ H' => Q .non H', rt := Q } :=
    ⟨fun σ' δ' G' H' r' s' q => hk .non .none _ G' H' (rl.ret ao s' r' q.1) s' .non q.2, fun v d σ' δ' G' H' r' s' x' q => hk v d _ G' H' (rl.ret ao s' r' q.1) s' x' q.2, fun _ _ _ _ _ _ q => q, fun _ _ _ _ _ _ q => q⟩
  have run := (PSs.nox (X := cxOf CX0 P w K mg base N qual scope f cdv A outer s H E0) (t := USs (bodyX P w K mg base N qual scope f cdv A outer s H) body) pss_U).run [] s1 (L2.start N vs) H _ I (hJ F (L2.start N vs) G H _ rs ends)
  refine wpAny_mono run (fun fl s' hq => ?_) (fun e s' hq => hq)
  cases fl with
  | ret u =>
    obtain ⟨v, σ', H', J, rv, q⟩ := hq
    exact ⟨v, H', J.os, J.bare, J.base, J.hok, rv, q⟩
  | next =>
    obtain ⟨σ', H', J, q⟩ := hq
    exact ⟨.non, H', J.os, J.bare, J.base, J.hok, rfl, q⟩
  | brk =>
    obtain ⟨_, _, _, q⟩ := hq
    exact q.elim
  | cont =>
    obtain ⟨_, _, _, q⟩ := hq
    exact q.elim
end
section
variable {K : PySem.W.Frag} {F G G' H H' : Hp} {σ : L2.St} {δ : List Sl}
/-- behind a call that leaves all that is not frozen as it is -/
theorem Rel.after (r : Rel K F σ G H δ) (sg : Same G G') (sh : Same G' H') (k : ∀ a o, H a = some o → G a = none → G' a = none ∧ H' a = some o) : Rel K F σ G' H' δ where
  len := r.len
  ext := sh
  frm := fun a o e => by
    obtain ⟨h1, h2⟩ := r.frm a o e
    exact k a o h2 h1
  slo := fun i s e => by
    have q := r.slo i s e
    cases s with
    | dat d =>
      obtain ⟨v, k1, k2⟩ := q
      exact ⟨v, k1, Dt.mono sg _ _ k2⟩
    | own ys =>
      obtain ⟨b, us, k1, k2, k3, k4, k5⟩ := q
      obtain ⟨h1, h2⟩ := k b _ k4 k2
      exact ⟨b, us, k1, h1, k3, h2, DtAll.mono sg _ _ k5⟩
    | pen b c =>
      obtain ⟨k1, k2, k3, c, ns, n, g, k4, k5, k6⟩ := q
      obtain ⟨h1, h2⟩ := k b _ k4 k2
      exact ⟨k1, h1, k3, c, ns, n, g, h2, Same.seq sg k5, k6⟩
    | und => trivial
  apt := r.apt
/-- the same, the pen at p apart -/
theorem Rel.afterP (r : Rel K F σ G H δ) {j : Nat} {p : Addr} {b b' : PB} (hj : δ[j]? = some (.pen p b)) (sg : Same G G') (sh : Same G' H') (k : ∀ a o, a ≠ p → H a = some o → G a = none → G' a = none ∧ H' a = some o)
    (hp : G' p = none) (hP : PenAt K G' H' p b') : Rel K F σ G' H' (δ.set j (.pen p b')) := by
  obtain ⟨p1, p2, p3, p4⟩ := r.slo j _ hj
  have hl : j < δ.length := (List.getElem?_eq_some_iff.mp hj).1
  refine ⟨by rw [List.length_set]; exact r.len, sh, fun a o e => ?_, fun i s e => ?_, fun x y s t a k1 k2 m1 m2 k3 k4 => ?_⟩
  · obtain ⟨h1, h2⟩ := r.frm a o e
    exact k a o (fun z => by rw [z, p3] at e; cases e) h2 h1
  · by_cases hi : j = i
    · subst hi
      rw [List.getElem?_set_self hl] at e
      cases e
      exact ⟨p1, hp, p3, hP⟩
    · rw [List.getElem?_set_ne hi] at e
      have q := r.slo i s e
      cases s with
      | dat d =>
        obtain ⟨v, k1, k2⟩ := q
        exact ⟨v, k1, Dt.mono sg _ _ k2⟩
      | own ys =>
        obtain ⟨b, us, k1, k2, k3, k4, k5⟩ := q
        have n : b ≠ p := fun z => hi (r.apt j i _ _ p hj e rfl rfl p1 (by rw [k1, z]))
        obtain ⟨h1, h2⟩ := k b _ n k4 k2
        exact ⟨b, us, k1, h1, k3, h2, DtAll.mono sg _ _ k5⟩
      | pen b c =>
        obtain ⟨k1, k2, k3, c, ns, m, g, k4, k5, k6⟩ := q
        have n : b ≠ p := fun z => hi (r.apt j i _ _ p hj e rfl rfl p1 (by rw [k1, z]))
        obtain ⟨h1, h2⟩ := k b _ n k4 k2
        exact ⟨k1, h1, k3, c, ns, m, g, h2, Same.seq sg k5, k6⟩
      | und => trivial
  · have up : ∀ (z : Nat) (w : Sl), (δ.set j (.pen p b'))[z]? = some w → w.isMut = true → ∃ w', δ[z]? = some w' ∧ w'.isMut = true := fun z w q1 q2 => by
      by_cases hz : j = z
      · subst hz
        exact ⟨_, hj, rfl⟩
      · rw [List.getElem?_set_ne hz] at q1
        exact ⟨w, q1, q2⟩
    obtain ⟨s', k1', m1'⟩ := up x s k1 m1
    obtain ⟨t', k2', m2'⟩ := up y t k2 m2
    exact r.apt x y s' t' a k1' k2' m1' m2' k3 k4
end
/-- what a callee keeps: all that is not frozen, but for the pen -/
def away (G H : Hp) (p : Option Addr) : Hp := fun a => if G a = none ∧ some a ≠ p then H a else none
theorem away_of {G H : Hp} {p : Option Addr} {a : Addr} {o : HO} (e : away G H p a = some o) : G a = none ∧ some a ≠ p ∧ H a = some o := by
  unfold away at e
  by_cases h : G a = none ∧ some a ≠ p
  · rw [if_pos h] at e
    exact ⟨h.1, h.2, e⟩
  · rw [if_neg h] at e
    cases e
theorem away_mk {G H : Hp} {p : Option Addr} {a : Addr} {o : HO} (g : G a = none) (n : some a ≠ p) (e : H a = some o) : away G H p a = some o := by
  unfold away
  rw [if_pos ⟨g, n⟩]
  exact e
theorem dats_ok {K : PySem.W.Frag} {F G H : Hp} {vs : List V} {ds : List D} (h : DtAll K G vs ds) (i : Nat) (s : Sl) (e : (ds.map Sl.dat)[i]? = some s) : SlOk K F G H ((vs.map some)[i]?) s := by
  rw [List.getElem?_map] at e
  cases q : ds[i]? with
  | none => rw [q] at e; cases e
  | some d =>
    rw [q] at e
    cases e
    obtain ⟨v, e1, e2⟩ := h.get q
    exact ⟨v, by rw [List.getElem?_map, e1]; rfl, e2⟩
theorem dats_mut {ds : List D} {i : Nat} {s : Sl} (e : (ds.map Sl.dat)[i]? = some s) (m : s.isMut = true) : False := by
  rw [List.getElem?_map] at e
  cases q : ds[i]? with
  | none => rw [q] at e; cases e
  | some d =>
    rw [q] at e
    cases e
    cases m
section
variable {X : Cx} {δ : List Sl} {Φ : D → List Sl → Prop} {pos p : Pos} {x : Str} {e : Expr} {es : List Expr} {k : Nat} {f : Addr} {fd : FuncData} {ps : List Str} {sp : Spc}
theorem run_fnG {F G H : Hp} {σ : L2.St} {Q : VK} {pins : List (Addr × Obj)} {s : Shared} {args : Args} {us : List Value} {vs : List V} {ds : List D} (Fn : FnG X.prog X.w X.K X.mg X.base k f fd ps sp) (hr : GR k X.A) (I : Inv X pins σ H s) (r : Rel X.K F σ G H δ)
    (hb : BindsTo s fd args (ps.zip us)) (rv : Vals vs us) (hl : ds.length = ps.length) (hv : DtAll X.K G vs ds) (hs : sp (ds.map .dat) fun d _ => Φ d δ)
    (kk : ∀ v d G' H', Rel X.K F σ G' H' δ → Same G G' → Dt X.K G' v d → Φ d δ → Q v H') : codeAny (model X.prog X.w) X.A (.call (.ref f) args) (CR CX0 X.stack X.prog X.w H s Q E0) s := by
  refine Fn.run X.A X.stack s H args us vs Q hr I.env0 hb rv (hv.length.trans hl) ⟨away G H none, G, ds.map .dat, _, ⟨by rw [List.length_map, List.length_map]; exact hv.length, r.ext, fun a o z => ?_, fun i t z => dats_ok hv i t z, fun i j t u a z _ m _ _ _ => (dats_mut z m).elim⟩, hs, ?_⟩
  · obtain ⟨h1, _, h2⟩ := away_of z
    exact ⟨h1, h2⟩
  · intro v d as' G' H' r' s' x' q
    exact kk v d G' H' (r.after s' r'.ext fun a o z1 z2 => r'.frm a o (away_mk z2 (fun z => nomatch z) z1)) s' x' q
theorem ends_call {pins : List (Addr × Obj)} {σ : L2.St} {H : Hp} {s : Shared} {Q : VK} (I : Inv X pins σ H s) {r : Result} {s' : Shared} (h : CR CX0 X.stack X.prog X.w H s Q E0 r s') : match (generalizing := false) r with
    | .ok (.ret v) => EP X pins σ Q v s'
    | .ok _ => False
    | .error e => X.xe e s' := by
  cases r with
  | error e => exact (show False from h).elim
  | ok fl =>
    cases fl with
    | ret u => exact I.after h
    | next => exact h
    | brk => exact h
    | cont => exact h
/-- f(e, ..), all by data -/
theorem J_call (Fn : FnG X.prog X.w X.K X.mg X.base k f fd ps sp) (hr : GR k X.A) (hm : X.mg x = some (.ref f)) (hk : PySem.W.keepIn X.K (.ref f) = true) (hb : Binds X.K fd ps [])
    (h : JA X (e :: es) δ fun ds δ1 => ds.length = ps.length ∧ sp (ds.map .dat) fun d _ => Φ d δ1) (hg : Gl X x := by rfl) (hdb : (x == ("__debug__" : Str)) = false := by decide)
    (he : starEach (e :: es) X.env = (false, eval e X.env) :: starEach es X.env := by rfl) (hpl : (backTo pos (starEach es X.env)).any (·.1) = false := by rfl) : J X (.Call (.Name x p) (e :: es) [] pos) δ Φ := fun F σ G H Q r kk pins s I => by
  refine wpAny_Call_Name_kw (ld_glob I hg hm (PySem.W.callWith_K (h₀ := X.base) I.ok.mod.kin hk ?_ he hpl) hdb)
  refine thn (h F σ G H (fun vs H1 => ∃ ds δ1 G1, Rel X.K F σ G1 H1 δ1 ∧ Same G G1 ∧ DtAll X.K G1 vs ds ∧ ds.length = ps.length ∧ sp (ds.map .dat) fun d _ => Φ d δ1) r (fun vs ds δ1 G1 H1 r1 s1 x1 q1 => ⟨ds, δ1, G1, r1, s1, x1, q1⟩) pos pins s I) fun us s1 hq => ?_
  obtain ⟨vs, H1, I1, rv, ds, δ1, G1, r1, sg, x1, hl, hs⟩ := hq
  refine ⟨I1.kIn, wpAny_call (codeAny_mono (run_fnG Fn hr I1 r1 (by
    have := hb s1 us I1.kIn (by rw [List.append_nil, ← rv.length, x1.length]; exact hl)
    rw [List.append_nil] at this
    exact this) rv hl x1 hs fun v d G' H' r' s' x' q => kk v d δ1 G' H' r' (sg.trans s') x' q) fun r' s' q => ends_call I1 q)⟩
/-- f(pen, e, ..): the pen's own slot is j -/
theorem J_callP {pn : Str} {pp : Pos} {pa : Addr} (j : Nat) (Fn : FnG X.prog X.w X.K X.mg X.base k f fd ps sp) (hr : GR k X.A) (hm : X.mg x = some (.ref f)) (hk : PySem.W.keepIn X.K (.ref f) = true) (hb : Binds X.K fd ps [])
    {b : PB} (hj : δ[j]? = some (.pen pa b)) (h : JA X es δ fun ds δ1 => ∃ b1, δ1[j]? = some (.pen pa b1) ∧ ds.length + 1 = ps.length ∧ sp (.pen pa b1 :: ds.map .dat) fun d as' => ∃ b2 r, as' = .pen pa b2 :: r ∧ Φ d (δ1.set j (.pen pa b2)))
    (hN : X.N[j]? = some pn := by rfl) (hv : Vis X.env.scope pn := by first | exact Or.inl rfl | exact Or.inr (Or.inl rfl) | exact Or.inr (Or.inr rfl)) (hg : Gl X x := by rfl) (hdb : (x == ("__debug__" : Str)) = false := by decide) (hd : (pn == ("__debug__" : Str)) = false := by decide) (hcd : (pn == ("__classdict__" : Str)) = false := by decide)
    (he : starEach (.Name pn pp :: es) X.env = (false, eval (.Name pn pp) X.env) :: starEach es X.env := by rfl) (hpl : (backTo pos (starEach es X.env)).any (·.1) = false := by rfl) : J X (.Call (.Name x p) (.Name pn pp :: es) [] pos) δ Φ := fun F σ G H Q r kk pins s I => by
  refine wpAny_Call_Name_kw (ld_glob I hg hm (PySem.W.callWith_K (h₀ := X.base) I.ok.mod.kin hk ?_ he hpl) hdb)
  obtain ⟨j1, j2, j3, j4⟩ := r.slo j _ hj
  refine thn (UA_of (pa_cons (pe_var hN hv hd hcd) pa_U he) (Q := fun vs H1 => ∃ vr ds δ1 G1 b1, vs = .ref pa :: vr ∧ Rel X.K F σ G1 H1 δ1 ∧ Same G G1 ∧ DtAll X.K G1 vr ds ∧ δ1[j]? = some (.pen pa b1) ∧ ds.length + 1 = ps.length ∧ sp (.pen pa b1 :: ds.map .dat) fun d as' => ∃ b2 r, as' = .pen pa b2 :: r ∧ Φ d (δ1.set j (.pen pa b2)))
    ⟨.ref pa, j1, h F σ G H _ r fun vs ds δ1 G1 H1 r1 s1 x1 ⟨b1, q1, q2, q3⟩ => ⟨vs, ds, δ1, G1, b1, rfl, r1, s1, x1, q1, q2, q3⟩⟩ pos pins s I) fun us s1 hq => ?_
  obtain ⟨vs, H1, I1, rv, vr, ds, δ1, G1, b1, rfl, r1, sg, x1, h1, hl, hs⟩ := hq
  obtain ⟨p1, p2, p3, p4⟩ := r1.slo j _ h1
  have len : (V.ref pa :: vr).length = ps.length := by
    rw [List.length_cons, x1.length]
    exact hl
  refine ⟨I1.kIn, wpAny_call (codeAny_mono (Fn.run X.A X.stack s1 H1 _ us (.ref pa :: vr) Q hr I1.env0 (by
    have := hb s1 us I1.kIn (by rw [List.append_nil, ← rv.length]; exact len)
    rw [List.append_nil] at this
    exact this) rv len ⟨away G1 H1 (some pa), G1, .pen pa b1 :: ds.map .dat, _, ⟨by simp [x1.length], r1.ext, fun a o z => ?_, fun i t z => ?_, fun i j t u a z1 z2 m1 m2 _ _ => ?_⟩, hs, ?_⟩) fun r' s' q => ends_call I1 q)⟩
  · obtain ⟨h1, _, h2⟩ := away_of z
    exact ⟨h1, h2⟩
  · cases i with
    | zero =>
      have e : t = .pen pa b1 := by simpa using z.symm
      subst e
      refine ⟨rfl, p2, ?_, p4⟩
      unfold away
      rw [if_neg (fun z => z.2 rfl)]
    | succ i => exact dats_ok x1 i t (by simpa using z)
  · cases i with
    | zero =>
      cases j with
      | zero => rfl
      | succ j => exact (dats_mut (by simpa using z2) m2).elim
    | succ i => exact (dats_mut (by simpa using z1) m1).elim
  · intro v d as' G' H' r' s' x' q
    obtain ⟨b2, rr, rfl, q⟩ := q
    obtain ⟨t1, t2, t3, t4⟩ := r'.slo 0 _ rfl
    exact kk v d _ G' H' (r1.afterP h1 s' r'.ext (fun a o n z1 z2 => r'.frm a o (away_mk z2 (fun z => n (Option.some.inj z)) z1)) t2 t4) (sg.trans s') x' q
end
end DL
end

section
/-! DL6: calls by keywords, statements. -/
namespace DL
open PySem PySem.Spec PyProof.Rows L2
section
variable {X : Cx} {δ : List Sl} {Φ : D → List Sl → Prop} {pos p kpos : Pos} {x : Str} {e : Expr} {es : List Expr} {kws : List Keyword} {k : Nat} {f : Addr} {fd : FuncData} {ps : List Str} {sp : Spc}
def UK (X : Cx) (kws : List Keyword) : TA := fun σ H Q => ∀ pos pins s, Inv X pins σ H s → wpAny (model X.prog X.w) X.A (evalAll ((backToKw pos (keywordEach kws X.env)).map (·.2))) (AP X pins σ Q) X.xe s
theorem pk_U : PK X kws (UK X kws) := ⟨fun pos pins s σ H Q I h => h pos pins s I⟩
theorem UK_of {t : TA} (h : PK X kws t) {σ : L2.St} {H : Hp} {Q : List V → Hp → Prop} (q : t σ H Q) : UK X kws σ H Q := fun pos pins s I => h.run pos pins s σ H Q I q
/-- the keywords' values -/
def JK (X : Cx) (kws : List Keyword) (δ : List Sl) (Φ : List D → List Sl → Prop) : Prop :=
  ∀ (F : Hp) (σ : L2.St) (G H : Hp) (Q : List V → Hp → Prop), Rel X.K F σ G H δ →
    (∀ vs ds δ' G' H', Rel X.K F σ G' H' δ' → Same G G' → DtAll X.K G' vs ds → Φ ds δ' → Q vs H') → UK X kws σ H Q
theorem JK_nil {Φ : List D → List Sl → Prop} (q : Φ [] δ) : JK X [] δ Φ := fun F σ G H Q r k => UK_of pk_nil (k [] [] δ G H r (Same.refl G) .nil q)
theorem JK_cons {Φ : List D → List Sl → Prop} {nm : Option Str} (h : J X e δ fun d δ1 => JK X kws δ1 fun ds δ2 => Φ (d :: ds) δ2) : JK X (⟨nm, e, kpos⟩ :: kws) δ Φ :=
  fun F σ G H Q r k => UK_of (pk_cons pe_U pk_U) (h F σ G H _ r fun v d δ1 G1 H1 r1 s1 x1 q1 =>
    q1 F σ G1 H1 _ r1 fun vs ds δ2 G2 H2 r2 s2 x2 q2 => k (v :: vs) (d :: ds) δ2 G2 H2 r2 (s1.trans s2) (.cons (Dt.mono s2 _ _ x1) x2) q2)
/-- how keywords bind: g puts them in the parameters' order -/
structure BindK (K : PySem.W.Frag) (fd : FuncData) (ps ks : List Str) (g : {α : Type} → List α → List α) : Prop where
  to : ∀ (s : Shared) (ws : List Value), K.In s.heap → ws.length = ks.length → BindsTo s fd ⟨[], ks.zip ws⟩ (ps.zip (g ws))
  vals : ∀ {zs : List V} {ws : List Value}, Vals zs ws → zs.length = ks.length → Vals (g zs) (g ws)
  dats : ∀ {K : PySem.W.Frag} {G : Hp} {vs : List V} {ds : List D}, DtAll K G vs ds → ds.length = ks.length → DtAll K G (g vs) (g ds)
  len : ∀ {ds : List D}, ds.length = ks.length → (g ds).length = ps.length
theorem J_callK {g : {α : Type} → List α → List α} {ks : List Str} (Fn : FnG X.prog X.w X.K X.mg X.base k f fd ps sp) (hr : GR k X.A) (hm : X.mg x = some (.ref f)) (hk : PySem.W.keepIn X.K (.ref f) = true) (hb : BindK X.K fd ps ks g)
    (h : JK X kws δ fun ds δ1 => ds.length = ks.length ∧ sp ((g ds).map .dat) fun d _ => Φ d δ1) (hks : (backToKw pos (keywordEach kws X.env)).filterMap (·.1) = ks := by rfl) (hall : (backToKw pos (keywordEach kws X.env)).all (·.1.isSome) = true := by rfl)
    (hg : Gl X x := by rfl) (hdb : (x == ("__debug__" : Str)) = false := by decide) (hpl : ((backTo pos (starEach [] X.env)).any (·.1) || (backToKw pos (keywordEach kws X.env)).any (·.1.isNone)) = false := by rfl) : J X (.Call (.Name x p) [] kws pos) δ Φ := fun F σ G H Q r kk pins s I => by
  refine wpAny_Call_Name_kw (ld_glob I hg hm (PySem.W.callWith_KW0 (h₀ := X.base) I.ok.mod.kin hk hall ?_ hpl) hdb)
  refine thn (h F σ G H (fun vs H1 => ∃ ds δ1 G1, Rel X.K F σ G1 H1 δ1 ∧ Same G G1 ∧ DtAll X.K G1 vs ds ∧ ds.length = ks.length ∧ sp ((g ds).map .dat) fun d _ => Φ d δ1) r (fun vs ds δ1 G1 H1 r1 s1 x1 q1 => ⟨ds, δ1, G1, r1, s1, x1, q1⟩) pos pins s I) fun ws s1 hq => ?_
  obtain ⟨vs, H1, I1, rv, ds, δ1, G1, r1, sg, x1, hl, hs⟩ := hq
  refine ⟨I1.kIn, ?_⟩
  rw [hks]
  have lv : vs.length = ks.length := x1.length.trans hl
  have lw : ws.length = ks.length := rv.length.symm.trans lv
  exact wpAny_call (codeAny_mono (run_fnG Fn hr I1 r1 (hb.to s1 ws I1.kIn lw) (hb.vals rv lv) (hb.len hl) (hb.dats x1 hl) hs fun v d G' H' r' s' x' q => kk v d δ1 G' H' r' (sg.trans s') x' q) fun r' s' q => ends_call I1 q)
end

/-! ### statements -/
section
variable {X : Cx} {δ : List Sl} {E : DE} {pos p2 : Pos} {x : Str} {e c : Expr} {st : Stmt} {sts A B : List Stmt}
theorem JSs_nil (q : E.nx δ) : JSs X [] δ E := fun F σ G H D r ok => USs_of pss_nil (ok.nx _ _ _ _ r (Same.refl G) q)
theorem JSs_cons (h : JS X st δ { E with nx := fun δ1 => JSs X sts δ1 E }) : JSs X (st :: sts) δ E := fun F σ G H D r ok =>
  USs_of (pss_cons ps_U pss_U) (h F σ G H { D with nx := USs X sts D } r ⟨fun σ' δ' G' H' r' s' q => q F σ' G' H' D r' (ok.mono s'), ok.rt, ok.bk, ok.ct⟩)
theorem JSs_one (h : JS X st δ E) : JSs X [st] δ E := fun F σ G H D r ok => USs_of (pss_one ps_U) (h F σ G H D r ok)
theorem JS_ret (h : J X e δ E.rt) : JS X (.Return (some e) pos) δ E := fun F σ G H D r ok =>
  US_of (ps_ret pe_U) (h F σ G H _ r fun v d δ' G' H' r' s' x' q => ok.rt v d σ δ' G' H' r' s' x' q)
theorem JS_expr (h : J X e δ fun _ δ1 => E.nx δ1) (hs : swapsWith e none pos.line X.env = pure false := by rfl) : JS X (.Expr e pos) δ E := fun F σ G H D r ok =>
  US_of (ps_expr pe_U hs) (h F σ G H _ r fun v d δ' G' H' r' s' x' q => ok.nx σ δ' G' H' r' s' q)
theorem JS_pass (q : E.nx δ) : JS X (.Pass pos) δ E := fun F σ G H D r ok => US_of ps_pass (ok.nx _ _ _ _ r (Same.refl G) q)
theorem JS_brk (q : E.bk δ) : JS X (.Break pos) δ E := fun F σ G H D r ok => US_of ps_break (ok.bk _ _ _ _ r (Same.refl G) q)
theorem JS_cont (q : E.ct δ) : JS X (.Continue pos) δ E := fun F σ G H D r ok => US_of ps_continue (ok.ct _ _ _ _ r (Same.refl G) q)
theorem JS_if (h : JT X c δ fun b δ1 => (b = true → JSs X A δ1 E) ∧ (b = false → JSs X B δ1 E)) : JS X (.If c A B pos) δ E := fun F σ G H D r ok =>
  US_of (ps_if pt_U pss_U pss_U) (h F σ G H _ r fun b δ' G' H' r' s' q => by
    cases b with
    | true => exact iteT (q.1 rfl F σ G' H' D r' (ok.mono s'))
    | false => exact iteF (q.2 rfl F σ G' H' D r' (ok.mono s')))
theorem JS_asg {pos' : Pos} (i : Nat) (hN : X.N.Nodup) (h : J X e δ fun d δ1 => E.nx (δ1.set i (.dat d))) (hi : X.N[i]? = some x := by rfl) (hx : Loc X.env.scope x := by first | exact .inl rfl | exact .inr rfl)
    (hs : swapsWith e (some (.Name x pos')) pos.line X.env = pure false := by rfl) (hf : X.fn x = true ∨ X.env.scope.names.lookup x = some .local := by first | exact .inl rfl | exact .inr rfl) : JS X (.Assign [.Name x pos'] e pos) δ E := fun F σ G H D r ok =>
  US_of (ps_set (i := i) hN hi hx pe_U hs hf) (h F σ G H _ r fun v d δ' G' H' r' s' x' q => ok.nx _ _ G' H' (r'.set x') s' q)
theorem JS_asgO {pos' : Pos} (i : Nat) (hN : X.N.Nodup) (h : JO X e δ fun xs δ1 => E.nx (δ1.set i (.own xs))) (hi : X.N[i]? = some x := by rfl) (hx : Loc X.env.scope x := by first | exact .inl rfl | exact .inr rfl)
    (hs : swapsWith e (some (.Name x pos')) pos.line X.env = pure false := by rfl) (hf : X.fn x = true ∨ X.env.scope.names.lookup x = some .local := by first | exact .inl rfl | exact .inr rfl) : JS X (.Assign [.Name x pos'] e pos) δ E := fun F σ G H D r ok =>
  US_of (ps_set (i := i) hN hi hx pe_U hs hf) (h F σ G H _ r fun p vs xs δ' G' H' r' hf' s' x' q => ok.nx _ _ G' H' (r'.takeOwn hf' x') s' q)
/-- a target of any kind -/
theorem JS_asgG {tg : Expr} (ns : List Nat) (h : J X e δ fun d δ1 => JG X tg ns d δ1 E.nx) (hs : swapsWithSole [tg] e pos.line X.env = pure false := by rfl) (hw : swappedStores [tg] e X.env = pure none := by rfl) (h1 : (assignEach [tg] X.env).map (·.2) = [assign tg X.env] := by rfl) : JS X (.Assign [tg] e pos) δ E := fun F σ G H D r ok =>
  US_of (ps_asg pe_U pg_U hs hw h1) (h F σ G H _ r fun v d δ' G' H' r' s' x' q => q F σ G' H' D.nx v r' x' fun σ2 δ2 G2 H2 r2 s2 w2 q2 => ok.nx σ2 δ2 G2 H2 r2 (s'.trans s2) q2)
/-- for .. in ..: no else -/
theorem JS_for {tg iter : Expr} {body : List Stmt} (ns : List Nat) (hp : PassesOwn (model X.prog X.w) X.A X.env X.xe) (hc : X.calm = true)
    (h : JI X tg iter δ fun items δ1 => ∃ I : Nat → List Sl → Prop, I 0 δ1 ∧
      (∀ k d δ2, items[k]? = some d → I k δ2 → JG X tg ns d δ2 fun δ3 => JSs X body δ3 { nx := I (k + 1), rt := E.rt, bk := E.nx, ct := I (k + 1) }) ∧ (∀ δ2, I items.length δ2 → E.nx δ2)) (hs : ∀ x, foldedSetIterable iter X.env x = pure x := by intro _; rfl) : JS X (.For tg iter body [] pos) δ E := fun F σ G H D r ok => by
  refine US_of (ps_for hp hc pi_U pg_U pss_U hs) ?_
  refine h F σ G H _ r fun J items δ1 G1 H1 r1 s1 io q1 => ?_
  obtain ⟨I, h0, ht, he⟩ := q1
  refine ⟨fun i m σ H => m = items.length - i ∧ i ≤ items.length ∧ ∃ δ2 G2, Rel X.K F σ G2 H δ2 ∧ Same G1 G2 ∧ I i δ2, ⟨_, rfl, Nat.zero_le _, δ1, G1, r1, Same.refl _, h0⟩, ?_⟩
  rintro i m σ2 H2 ⟨rfl, hle, δ2, G2, r2, s2, hI⟩
  by_cases hlt : i < items.length
  · refine .inr ⟨io.2.1 _ _ _ _ _ i r2 s2 hlt, fun σ' H' => ∃ δ2 G2, Rel X.K F σ' G2 H' δ2 ∧ Same G1 G2 ∧ I (i + 1) δ2, fun σ' H' w => ⟨items.length - (i + 1), by omega, rfl, hlt, w⟩, fun x H' y => ?_⟩
    obtain ⟨d, G3, e3, r3, s3, x3⟩ := io.2.2.2 _ _ _ _ _ i x H' r2 s2 hlt y
    refine ht i d δ2 e3 hI F σ2 G3 H' _ x r3 x3 fun σ4 δ4 G4 H4 r4 s4 w4 q4 => ?_
    have sg : Same G1 G4 := (s2.trans s3).trans s4
    exact q4 F σ4 G4 H4 _ r4 ⟨fun σ' δ' G' H' r' s' q => ⟨δ', G', r', sg.trans s', q⟩, fun v d σ' δ' G' H' r' s' x' q => ok.rt v d σ' δ' G' H' r' ((s1.trans sg).trans s') x' q, fun σ' δ' G' H' r' s' q => ok.nx σ' δ' G' H' r' ((s1.trans sg).trans s') q, fun σ' δ' G' H' r' s' q => ⟨δ', G', r', sg.trans s', q⟩⟩
  · have e : i = items.length := by omega
    subst e
    exact .inl ⟨io.2.2.1 _ _ _ _ _ r2 s2, ok.nx _ _ _ _ r2 (s1.trans s2) (he δ2 hI)⟩
/-- xs[i] = e, xs a name's own list -/
theorem JS_setOwn {ix : Expr} {px p3 : Pos} (j : Nat) (h : J X e δ fun d δ1 => ∃ xs, δ1[j]? = some (.own xs) ∧ J X ix δ1 fun i δ2 => ∃ n m, i = .int n ∧ δ2[j]? = some (.own xs) ∧ ixN xs.length n = some m ∧ E.nx (δ2.set j (.own (xs.set m d)))) (hi : X.N[j]? = some x := by rfl)
    (hv : Vis X.env.scope x := by first | exact Or.inl rfl | exact Or.inr (Or.inl rfl) | exact Or.inr (Or.inr rfl)) (hd : (x == ("__debug__" : Str)) = false := by decide) (hcd : (x == ("__classdict__" : Str)) = false := by decide)
    (hs : swapsWithSole [.Subscript (.Name x px) ix p3] e pos.line X.env = pure false := by rfl) (hw : swappedStores [.Subscript (.Name x px) ix p3] e X.env = pure none := by rfl) (hpl : ∀ u, assign (.Subscript (.Name x px) ix p3) X.env u = assign (.Subscript (.Name x px) ix p3) X.env u := by intro _; rfl)
    (hg : ∀ {to ti : TE}, PE X (.Name x px) to → PE X ix ti → PG X (.Subscript (.Name x px) ix p3) (gSub to ti rSetL) := by intro _ _ ho hi; exact pg_sub ho hi set_list) : JS X (.Assign [.Subscript (.Name x px) ix p3] e pos) δ E := fun F σ G H D r ok =>
  US_of (ps_asg pe_U (hg (pe_var hi hv hd hcd) pe_U) hs hw) (h F σ G H _ r fun v d δ1 G1 H1 r1 s1 x1 q1 => by
    obtain ⟨xs, ho, q1⟩ := q1
    obtain ⟨a, vs, o1, o2, o3, o4, o5⟩ := r1.slo j _ ho
    refine ⟨.ref a, o1, q1 F σ G1 H1 _ r1 fun u i δ2 G2 H2 r2 s2 x2 q2 => ?_⟩
    obtain ⟨n, m, rfl, ho2, hix, q2⟩ := q2
    cases x2
    obtain ⟨a', vs', t1, t2, t3, t4, t5⟩ := r2.slo j _ ho2
    have ea : a' = a := by
      rw [o1] at t1
      cases t1
      rfl
    subst ea
    refine ⟨a', vs', n, m, rfl, rfl, t4, by rw [t5.length]; exact hix, ok.nx σ _ G2 _ (r2.mut ho2 t1 (t5.set m (Dt.mono s2 _ _ x1))) (s1.trans s2) q2⟩)
/-- a, b = e1, e2: a takes a new list for its own, b is data -/
theorem JS_parO {y : Str} {a b : Expr} {px py pt : Pos} {kt k2 pt2} (i j : Nat) (hc : X.calm = true) (hN : X.N.Nodup) (h : JO X a δ fun xs δ1 => J X b δ1 fun d δ2 => E.nx ((δ2.set i (.own xs)).set j (.dat d)))
    (hi : X.N[i]? = some x := by rfl) (hj : X.N[j]? = some y := by rfl) (hij : i ≠ j := by decide)
    (hx : X.env.scope.names.lookup x = some .local := by rfl) (hy : X.env.scope.names.lookup y = some .local := by rfl) (hw : swappedStores [.Tuple [.Name x px, .Name y py] kt pt] (.Tuple [a, b] k2 pt2) X.env = pure (some [x, y]) := by rfl) (hs : swapsWithSole [.Tuple [.Name x px, .Name y py] kt pt] (.Tuple [a, b] k2 pt2) pos.line X.env = pure false := by rfl) (hsa : starEach (a :: [b]) X.env = (false, eval a X.env) :: starEach [b] X.env := by rfl) (hsb : starEach [b] X.env = (false, eval b X.env) :: starEach [] X.env := by rfl) :
    JS X (.Assign [.Tuple [.Name x px, .Name y py] kt pt] (.Tuple [a, b] k2 pt2) pos) δ E := fun F σ G H D r ok =>
  US_of (ps_par hc hN hi hj hij hx hy (pa_cons pe_U (pa_cons pe_U pa_nil hsb) hsa) hw hs) (h F σ G H _ r fun p vs xs δ1 G1 H1 r1 f1 s1 x1 q1 => q1 (upd F p (.lst vs)) σ G1 H1 _ r1 fun v d δ2 G2 H2 r2 s2 x2 q2 =>
    ⟨.ref p, v, rfl, ok.nx _ _ G2 H2 ((r2.takeOwn f1 (DtAll.mono s2 _ _ x1)).set x2) (s1.trans s2) q2⟩)
end
end DL
end

section
/-! DL7: functions by name, common promises, small facts. -/
namespace DL
open PySem PySem.Spec PyProof.Rows L2
theorem FnG.mono {P : Program} {w : World} {K : PySem.W.Frag} {mg : Str → Option Value} {base : Heap} {j k : Nat} {f : Addr} {fd : FuncData} {ps : List Str} {sp : Spc} (F : FnG P w K mg base j f fd ps sp) (h : j ≤ k) : FnG P w K mg base k f fd ps sp :=
  ⟨fun A outer s H args us vs Q hr => F.run A outer s H args us vs Q (hr.mono h)⟩
/-- the function that the module's name x holds -/
structure Cal (P : Program) (w : World) (K : PySem.W.Frag) (mg : Str → Option Value) (base : Heap) (x : Str) (k : Nat) (ps : List Str) (sp : Spc) : Prop where
  ex : ∃ f fd, FnG P w K mg base k f fd ps sp ∧ mg x = some (.ref f) ∧ PySem.W.keepIn K (.ref f) = true ∧ Binds K fd ps []
section
variable {X : Cx} {δ : List Sl} {Φ : D → List Sl → Prop} {pos p : Pos} {x : Str} {e : Expr} {es : List Expr} {k j : Nat} {ps : List Str} {sp : Spc}
theorem J_c (c : Cal X.prog X.w X.K X.mg X.base x k ps sp) (hr : GR j X.A) (h : JA X (e :: es) δ fun ds δ1 => ds.length = ps.length ∧ sp (ds.map .dat) fun d _ => Φ d δ1) (hkj : k ≤ j := by decide) (hg : Gl X x := by rfl) (hdb : (x == ("__debug__" : Str)) = false := by decide)
    (he : starEach (e :: es) X.env = (false, eval e X.env) :: starEach es X.env := by rfl) (hpl : (backTo pos (starEach es X.env)).any (·.1) = false := by rfl) : J X (.Call (.Name x p) (e :: es) [] pos) δ Φ := by
  obtain ⟨f, fd, F, m, kp, b⟩ := c.ex
  exact J_call F (hr.mono hkj) m kp b h hg hdb he hpl
theorem J_cP {pn : Str} {pp : Pos} {pa : Addr} (i : Nat) (c : Cal X.prog X.w X.K X.mg X.base x k ps sp) (hr : GR j X.A) {b : PB} (hi : δ[i]? = some (.pen pa b))
    (h : JA X es δ fun ds δ1 => ∃ b1, δ1[i]? = some (.pen pa b1) ∧ ds.length + 1 = ps.length ∧ sp (.pen pa b1 :: ds.map .dat) fun d as' => ∃ b2 r, as' = .pen pa b2 :: r ∧ Φ d (δ1.set i (.pen pa b2)))
    (hkj : k ≤ j := by decide) (hN : X.N[i]? = some pn := by rfl) (hv : Vis X.env.scope pn := by first | exact Or.inl rfl | exact Or.inr (Or.inl rfl) | exact Or.inr (Or.inr rfl)) (hg : Gl X x := by rfl) (hdb : (x == ("__debug__" : Str)) = false := by decide) (hd : (pn == ("__debug__" : Str)) = false := by decide) (hcd : (pn == ("__classdict__" : Str)) = false := by decide)
    (he : starEach (.Name pn pp :: es) X.env = (false, eval (.Name pn pp) X.env) :: starEach es X.env := by rfl) (hpl : (backTo pos (starEach es X.env)).any (·.1) = false := by rfl) : J X (.Call (.Name x p) (.Name pn pp :: es) [] pos) δ Φ := by
  obtain ⟨f, fd, F, m, kp, bb⟩ := c.ex
  exact J_callP i F (hr.mono hkj) m kp bb hi h hN hv hg hdb hd hcd he hpl
theorem isi1 {T : Str} (t : String) {p1 p2 : Pos} (hm : X.mg "isinstance" = none) (hT : X.mg T = none) (h : J X e δ fun d δ1 => ∃ k, kitB (tyName d) t = some k ∧ Φ (.bool k) δ1) (hv : bootBuiltins T = some (.type t) := by decide +kernel) (hg : Gl X "isinstance" := by rfl) (hgT : Gl X T := by rfl)
    (hn : T ≠ "__name__" := by decide) (hd : (T == ("__debug__" : Str)) = false := by decide) (hs1 : starEach (e :: [.Name T p2]) X.env = (false, eval e X.env) :: starEach [.Name T p2] X.env := by rfl) (hs2 : starEach [.Name T p2] X.env = (false, eval (.Name T p2) X.env) :: starEach [] X.env := by rfl)
    (hpl : (backTo pos (starEach [.Name T p2] X.env)).any (·.1) = false := by rfl) : J X (.Call (.Name "isinstance" p1) [e, .Name T p2] [] pos) δ Φ := J_isi h hm hT hv hg hgT hn hd hs1 hs2 hpl
theorem isi2 {T1 T2 : Str} (t1 t2 : String) {p1 p2 p3 p4 : Pos} {x1} (hm : X.mg "isinstance" = none) (hT1 : X.mg T1 = none) (hT2 : X.mg T2 = none) (h : J X e δ fun d δ1 => ∃ k1 k2, kitB (tyName d) t1 = some k1 ∧ kitB (tyName d) t2 = some k2 ∧ Φ (.bool (k1 || k2)) δ1)
    (hv1 : bootBuiltins T1 = some (.type t1) := by decide +kernel) (hv2 : bootBuiltins T2 = some (.type t2) := by decide +kernel) (hg : Gl X "isinstance" := by rfl) (hgT1 : Gl X T1 := by rfl) (hgT2 : Gl X T2 := by rfl)
    (hn1 : T1 ≠ "__name__" := by decide) (hd1 : (T1 == ("__debug__" : Str)) = false := by decide) (hn2 : T2 ≠ "__name__" := by decide) (hd2 : (T2 == ("__debug__" : Str)) = false := by decide)
    (hs1 : starEach (e :: [.Tuple [.Name T1 p2, .Name T2 p3] x1 p4]) X.env = (false, eval e X.env) :: starEach [.Tuple [.Name T1 p2, .Name T2 p3] x1 p4] X.env := by rfl)
    (hpl : (backTo pos (starEach [.Tuple [.Name T1 p2, .Name T2 p3] x1 p4] X.env)).any (·.1) = false := by rfl) : J X (.Call (.Name "isinstance" p1) [e, .Tuple [.Name T1 p2, .Name T2 p3] x1 p4] [] pos) δ Φ := J_isi2 h hm hT1 hT2 hv1 hv2 hg hgT1 hgT2 hn1 hd1 hn2 hd2 hs1 hpl
end
/-- where a branch ends: the mirror's value there -/
theorem fin_of {a b : D} {as : List Sl} {Φ : D → List Sl → Prop} (q : Φ b as) (e : b = a) : Φ a as := by
  rw [← e]
  exact q
def sp1 (pre : D → Prop) (F : D → D) : Spc := fun as Φ => ∃ d, as = [.dat d] ∧ pre d ∧ Φ (F d) as
def sp3 (pre : D → D → D → Prop) (F : D → D → D → D) : Spc := fun as Φ => ∃ d e f, as = [.dat d, .dat e, .dat f] ∧ pre d e f ∧ Φ (F d e f) as
theorem argB_ok {as : List Sl} (h : (as.all fun s => match s with | .own _ => false | _ => true) = true) : argsOk as := fun i xs e => by
  have := List.all_eq_true.mp h _ (List.mem_of_getElem? e)
  cases this
def isList : D → Bool
  | .list _ => true
  | _ => false
def isTup : D → Bool
  | .tuple _ => true
  | _ => false
def isStr : D → Bool
  | .str _ => true
  | _ => false
theorem kb_list (d : D) : kitB (tyName d) "list" = some (isList d) := by
  cases d <;> first | exact (by decide +kernel : kitB "NoneType" "list" = some false) | exact (by decide +kernel : kitB "bool" "list" = some false) | exact (by decide +kernel : kitB "int" "list" = some false) | exact (by decide +kernel : kitB "str" "list" = some false) | exact (by decide +kernel : kitB "list" "list" = some true) | exact (by decide +kernel : kitB "tuple" "list" = some false) | exact (by decide +kernel : kitB "dict" "list" = some false)
theorem kb_tup (d : D) : kitB (tyName d) "tuple" = some (isTup d) := by
  cases d <;> first | exact (by decide +kernel : kitB "NoneType" "tuple" = some false) | exact (by decide +kernel : kitB "bool" "tuple" = some false) | exact (by decide +kernel : kitB "int" "tuple" = some false) | exact (by decide +kernel : kitB "str" "tuple" = some false) | exact (by decide +kernel : kitB "list" "tuple" = some false) | exact (by decide +kernel : kitB "tuple" "tuple" = some true) | exact (by decide +kernel : kitB "dict" "tuple" = some false)
theorem kb_str (d : D) : kitB (tyName d) "str" = some (isStr d) := by
  cases d <;> first | exact (by decide +kernel : kitB "NoneType" "str" = some false) | exact (by decide +kernel : kitB "bool" "str" = some false) | exact (by decide +kernel : kitB "int" "str" = some false) | exact (by decide +kernel : kitB "str" "str" = some true) | exact (by decide +kernel : kitB "list" "str" = some false) | exact (by decide +kernel : kitB "tuple" "str" = some false) | exact (by decide +kernel : kitB "dict" "str" = some false)
def seqB (d : D) : Bool := isList d || isTup d
def lenD : D → Int
  | .list xs => xs.length
  | .tuple xs => xs.length
  | _ => 0
def items (d : D) : List D := (seqOf d).getD []
theorem seq_some {d : D} (h : seqB d = true) : ∃ xs, seqOf d = some xs ∧ items d = xs ∧ lenD d = (xs.length : Nat) := by
  cases d <;> first | exact ⟨_, rfl, rfl, rfl⟩ | cases h
theorem seq_none {d : D} (h : seqB d = false) : seqOf d = none ∧ items d = [] := by
  cases d <;> first | exact ⟨rfl, rfl⟩ | cases h
/-- all(..) of a comprehension without tests -/
theorem pick_all {xs : List D} {g : D → Bool} : pick (fun _ => true) (fun d => .bool (g d)) xs = (xs.map g).map .bool := by
  unfold pick
  rw [List.filter_eq_self.mpr (fun _ _ => rfl), List.map_map]
  rfl
theorem RC_allP {X : Cx} {δ : List Sl} {Φ : D → List Sl → Prop} {xs : List D} {g : D → Bool} (q : Φ (.bool (xs.all g)) δ) : RCJ X (rAll X.K) [.list (pick (fun _ => true) (fun d => .bool (g d)) xs)] δ Φ := by
  rw [pick_all]
  refine RC_all ?_
  have e : (xs.map g).all id = xs.all g := by rw [List.all_map]; rfl
  rw [e]
  exact q
/-- c in, not in a text, c one of a text's signs -/
def inS (z : Str) : D → Bool
  | .str t => match t.cps.toList with
    | [c] => decide (c ∈ z.cps.toList)
    | _ => false
  | _ => false
theorem RJ_inSign {X : Cx} {δ : List Sl} {Φ : D → List Sl → Prop} {d : D} {t z : Str} (hd : d ∈ signsD t) (q : Φ (.bool (inS z d)) δ) : RJ X (fun x y H Q => ∃ (c : Nat) (z : Str), x = .str ⟨#[c]⟩ ∧ y = .str z ∧ Q (.bl (decide (c ∈ z.cps.toList))) H) d (.str z) δ Φ := fun F σ G H Q v u r x y k => by
  obtain ⟨c, hc, rfl⟩ := List.mem_map.mp hd
  cases x
  cases y
  exact ⟨c, z, rfl, rfl, k _ _ δ G H r (Same.refl G) (.bl _) q⟩
theorem RJ_notInSign {X : Cx} {δ : List Sl} {Φ : D → List Sl → Prop} {d : D} {t z : Str} (hd : d ∈ signsD t) (q : Φ (.bool (!inS z d)) δ) : RJ X (fun x y H Q => ∃ (c : Nat) (z : Str), x = .str ⟨#[c]⟩ ∧ y = .str z ∧ Q (.bl (!decide (c ∈ z.cps.toList))) H) d (.str z) δ Φ := fun F σ G H Q v u r x y k => by
  obtain ⟨c, hc, rfl⟩ := List.mem_map.mp hd
  cases x
  cases y
  exact ⟨c, z, rfl, rfl, k _ _ δ G H r (Same.refl G) (.bl _) q⟩
theorem eqv_str (a b : Str) : PyData.eqv (.str a) (.str b) = decide (a = b) := by
  simp only [PyData.eqv]
  by_cases h : a = b <;> simp [h]
theorem eqv_int (a b : Int) : PyData.eqv (.int a) (.int b) = decide (a = b) := by
  simp only [PyData.eqv]
  by_cases h : a = b <;> simp [h]
theorem shp_str {a : Str} (h : PyData.strOk a = true) : SeqAt.shaped (.str a) = true := by simp [SeqAt.shaped, PyData.canLay0, PyData.depth, h]
theorem RJ_eqS {X : Cx} {δ : List Sl} {Φ : D → List Sl → Prop} {a b : Str} (q : Φ (.bool (decide (a = b))) δ) : RJ X rEq (.str a) (.str b) δ Φ := fun F σ G H Q v u r x y k => by
  cases x
  cases y
  have e : decide (V.str a = V.str b) = decide (a = b) := by simp
  refine ⟨rfl, ?_⟩
  rw [e]
  exact k _ _ δ G H r (Same.refl G) (.bl _) q
theorem RJ_neS {X : Cx} {δ : List Sl} {Φ : D → List Sl → Prop} {a b : Str} (q : Φ (.bool (!decide (a = b))) δ) : RJ X rNe (.str a) (.str b) δ Φ := fun F σ G H Q v u r x y k => by
  cases x
  cases y
  have e : decide (V.str a = V.str b) = decide (a = b) := by simp
  refine ⟨rfl, ?_⟩
  rw [e]
  exact k _ _ δ G H r (Same.refl G) (.bl _) q
theorem RJ_eqI {X : Cx} {δ : List Sl} {Φ : D → List Sl → Prop} {a b : Int} (q : Φ (.bool (decide (a = b))) δ) : RJ X rEq (.int a) (.int b) δ Φ := fun F σ G H Q v u r x y k => by
  cases x
  cases y
  have e : decide (V.int a = V.int b) = decide (a = b) := by simp
  refine ⟨rfl, ?_⟩
  rw [e]
  exact k _ _ δ G H r (Same.refl G) (.bl _) q
theorem RJ_neI {X : Cx} {δ : List Sl} {Φ : D → List Sl → Prop} {a b : Int} (q : Φ (.bool (!decide (a = b))) δ) : RJ X rNe (.int a) (.int b) δ Φ := fun F σ G H Q v u r x y k => by
  cases x
  cases y
  have e : decide (V.int a = V.int b) = decide (a = b) := by simp
  refine ⟨rfl, ?_⟩
  rw [e]
  exact k _ _ δ G H r (Same.refl G) (.bl _) q
theorem shp_int (a : Int) : SeqAt.shaped (.int a) = true := by simp [SeqAt.shaped, PyData.canLay0, PyData.depth]
/-! texts are short, rows are short: deep -/
mutual
def okD : D → Bool
  | .str z => decide (z.length ≤ 1000) && PyData.strOk z
  | .list xs => decide (xs.length ≤ 1000) && okAll xs
  | .tuple xs => decide (xs.length ≤ 1000) && okAll xs
  | _ => true
def okAll : List D → Bool
  | [] => true
  | x :: xs => okD x && okAll xs
end
theorem okAll_mem : ∀ {xs : List D} {x : D}, okAll xs = true → x ∈ xs → okD x = true
  | [], _, _, h => by cases h
  | y :: ys, x, h, hm => by
    have h' : okD y = true ∧ okAll ys = true := by simpa [okAll] using h
    cases hm with
    | head => exact h'.1
    | tail _ hm => exact okAll_mem h'.2 hm
theorem okAll_of : ∀ {xs : List D}, (∀ x ∈ xs, okD x = true) → okAll xs = true
  | [], _ => by simp [okAll]
  | y :: ys, h => by
    simp only [okAll, Bool.and_eq_true]
    exact ⟨h y List.mem_cons_self, okAll_of fun x hx => h x (List.mem_cons_of_mem _ hx)⟩
theorem okD_str {z : Str} (h : okD (.str z) = true) : z.length ≤ 1000 ∧ PyData.strOk z = true := by simpa [okD] using h
theorem okD_seq {d : D} {xs : List D} (h : okD d = true) (e : seqOf d = some xs) : okAll xs = true ∧ xs.length ≤ 1000 := by
  cases d with
  | list ys =>
    cases e
    have h' : xs.length ≤ 1000 ∧ okAll xs = true := by simpa [okD] using h
    exact ⟨h'.2, h'.1⟩
  | tuple ys =>
    cases e
    have h' : xs.length ≤ 1000 ∧ okAll xs = true := by simpa [okD] using h
    exact ⟨h'.2, h'.1⟩
  | _ => cases e
theorem okD_like {d : D} {xs ys : List D} (h : okD d = true) (e : seqOf d = some xs) (hs : ∀ y ∈ ys, y ∈ xs) (hl : ys.length ≤ xs.length) : okD (likeD d ys) = true := by
  obtain ⟨h1, h2⟩ := okD_seq h e
  have h3 : okAll ys = true := okAll_of fun y hy => okAll_mem h1 (hs y hy)
  cases d with
  | list zs => simp only [likeD, okD, h3, Bool.and_true, decide_eq_true_eq]; omega
  | tuple zs => simp only [likeD, okD, h3, Bool.and_true, decide_eq_true_eq]; omega
  | _ => cases e
theorem seq_like {d : D} {xs ys : List D} (e : seqOf d = some xs) : seqOf (likeD d ys) = some ys := by
  cases d <;> first | rfl | cases e
/-! a list held against [] -/
def rEqE (K : PySem.W.Frag) (neg : Bool) : R2 := fun x y H Q => ∃ a b xs, x = .ref a ∧ y = .ref b ∧ SqL K H a xs ∧ SqL K H b [] ∧ Q (.bl (if neg then !xs.isEmpty else xs.isEmpty)) H
theorem op_eqE {X : Cx} (hu : X.A.units < cLine) : OpR X (compareOp .Eq) (rEqE X.K false) := by
  intro pins s σ H x y v u Q I rx ry h
  obtain ⟨a, b, xs, rfl, rfl, h1, h2, q⟩ := h
  cases rx
  cases ry
  obtain ⟨i1, v1, p1, _⟩ := I.list h1
  obtain ⟨i2, v2, p2, _⟩ := I.list h2
  cases v2
  cases v1 with
  | nil => exact SeqAt.RcAt.lists (e := fun _ => true) p1.isList p2.isList rfl hu (fun j z => by simp at z) X.prog X.w _ _ ⟨.bl true, H, I, rfl, q⟩
  | cons => exact SeqAt.RcAt.lists_lengths p1.isList p2.isList (by simp) hu X.prog X.w _ _ ⟨.bl false, H, I, rfl, q⟩
theorem op_neE {X : Cx} (hu : X.A.units < cLine) : OpR X (compareOp .NotEq) (rEqE X.K true) := by
  intro pins s σ H x y v u Q I rx ry h
  obtain ⟨a, b, xs, rfl, rfl, h1, h2, q⟩ := h
  cases rx
  cases ry
  obtain ⟨i1, v1, p1, _⟩ := I.list h1
  obtain ⟨i2, v2, p2, _⟩ := I.list h2
  cases v2
  cases v1 with
  | nil => exact SeqAt.RcNeAt.lists (e := fun _ => true) p1.isList p2.isList rfl hu (fun j z => by simp at z) X.prog X.w _ _ ⟨.bl false, H, I, rfl, q⟩
  | cons => exact SeqAt.RcNeAt.lists_lengths p1.isList p2.isList (by simp) hu X.prog X.w _ _ ⟨.bl true, H, I, rfl, q⟩
theorem emp_of {K : PySem.W.Frag} {G : Hp} {vs : List V} {ds : List D} (h : DtAll K G vs ds) : vs.isEmpty = ds.isEmpty := by
  cases h <;> rfl
theorem RJ_eqE {X : Cx} {δ : List Sl} {Φ : D → List Sl → Prop} {neg : Bool} {xs : List D} (q : Φ (.bool (if neg then !xs.isEmpty else xs.isEmpty)) δ) : RJ X (rEqE X.K neg) (.list xs) (.list []) δ Φ := fun F σ G H Q v u r x y k => by
  cases x with
  | lst a1 a2 =>
    cases y with
    | lst b1 b2 =>
      cases b2
      refine ⟨_, _, _, rfl, rfl, Same.seq r.ext a1, Same.seq r.ext b1, ?_⟩
      rw [emp_of a2]
      exact k _ _ δ G H r (Same.refl G) (.bl _) q
theorem pick_filter {xs : List D} {p : D → Bool} : pick p (fun d => d) xs = xs.filter p := by
  unfold pick
  exact List.map_id' _
theorem filter_none {xs : List D} {p : D → Bool} : (xs.filter fun d => !p d).isEmpty = xs.all p := by
  induction xs with
  | nil => rfl
  | cons x xs ih =>
    rw [List.filter_cons, List.all_cons, ← ih]
    cases p x <;> rfl
end DL
end

section
/-! DL8: pens, ints. -/
namespace DL
open PySem PySem.Spec PyProof.Rows L2
/-- a pen whose cells, place and great one are told -/
def PX (ns : List Int) (n g : Int) : PB := fun a b c => a = ns ∧ b = n ∧ c = g
/-- a pen from which at most so many cells were taken -/
def PK (k : Int) : PB := fun ns n g => ns.length ≤ 63 ∧ 0 ≤ n ∧ n ≤ k ∧ 0 ≤ g
section
variable {X : Cx} {δ : List Sl} {Φ : D → List Sl → Prop} {Ψ : Bool → List Sl → Prop} {E : DE} {pos p p3 pp px : Pos} {x : Str} {e a b : Expr} {es : List Expr} {sts : List Stmt} {pa : Addr} {B B' : PB} {ns : List Int} {n g : Int}
theorem Rel.pen {K : PySem.W.Frag} {F G H : Hp} {σ : L2.St} (r : Rel K F σ G H δ) {i : Nat} (hi : δ[i]? = some (.pen pa B)) (h : PenAt K G H pa B') : Rel K F σ G H (δ.set i (.pen pa B')) := by
  obtain ⟨p1, p2, p3, p4⟩ := r.slo i _ hi
  exact r.afterP hi (Same.refl G) r.ext (fun a o _ z1 z2 => ⟨z2, z1⟩) p2 h
theorem JSs_penX (i : Nat) (hi : δ[i]? = some (.pen pa B)) (h : ∀ ns n g, B ns n g → JSs X sts (δ.set i (.pen pa (PX ns n g))) E) : JSs X sts δ E := fun F σ G H D r ok => by
  obtain ⟨p1, p2, p3, c, ns, n, g, p4, p5, p6⟩ := r.slo i _ hi
  exact h ns n g p6 F σ G H D (r.pen hi ⟨c, ns, n, g, p4, p5, rfl, rfl, rfl⟩) ok
theorem JSs_penW (i : Nat) (hi : δ[i]? = some (.pen pa B)) (hB : ∀ ns n g, B ns n g → B' ns n g) (h : JSs X sts (δ.set i (.pen pa B')) E) : JSs X sts δ E := fun F σ G H D r ok => by
  obtain ⟨p1, p2, p3, c, ns, n, g, p4, p5, p6⟩ := r.slo i _ hi
  exact h F σ G H D (r.pen hi ⟨c, ns, n, g, p4, p5, hB _ _ _ p6⟩) ok
theorem J_penW (i : Nat) (hi : δ[i]? = some (.pen pa B)) (hB : ∀ ns n g, B ns n g → B' ns n g) (h : J X e (δ.set i (.pen pa B')) Φ) : J X e δ Φ := fun F σ G H D r ok => by
  obtain ⟨p1, p2, p3, c, ns, n, g, p4, p5, p6⟩ := r.slo i _ hi
  exact h F σ G H D (r.pen hi ⟨c, ns, n, g, p4, p5, hB _ _ _ p6⟩) ok
/-- pen[0], pen[1], pen[2] -/
def penIx (ns : List Int) (n g : Int) : Int → Option D
  | 0 => some (.list (ns.map .int))
  | 1 => some (.int n)
  | 2 => some (.int g)
  | _ => none
theorem ints_dt {K : PySem.W.Frag} {G : Hp} : ∀ (ns : List Int), DtAll K G (ns.map V.int) (ns.map PyData.int)
  | [] => .nil
  | n :: ns => .cons (.int n) (ints_dt ns)
theorem J_pen (i : Nat) (hi : δ[i]? = some (.pen pa (PX ns n g))) (h : J X b δ fun y δ2 => ∃ k d, y = .int k ∧ penIx ns n g k = some d ∧ δ2[i]? = some (.pen pa (PX ns n g)) ∧ Φ d δ2) (hN : X.N[i]? = some x := by rfl) (hv : Vis X.env.scope x := by first | exact Or.inl rfl | exact Or.inr (Or.inl rfl) | exact Or.inr (Or.inr rfl))
    (hd : (x == ("__debug__" : Str)) = false := by decide) (hcd : (x == ("__classdict__" : Str)) = false := by decide) (hs : PlainIx b := by exact fun _ _ => rfl) : J X (.Subscript (.Name x pp) b pos) δ Φ := fun F σ G H Q r k => by
  obtain ⟨p1, _⟩ := r.slo i _ hi
  refine U_of (pe_ix ix_seq (pe_var hN hv hd hcd) pe_U hs) ⟨.ref pa, p1, h F σ G H _ r fun u y δ2 G2 H2 r2 s2 x2 q2 => ?_⟩
  obtain ⟨k', d, rfl, hk, hi2, q⟩ := q2
  cases x2
  obtain ⟨_, _, _, c, ns', n', g', t4, t5, e1, e2, e3⟩ := r2.slo i _ hi2
  subst e1 e2 e3
  unfold penIx at hk
  split at hk
  · cases hk
    exact .inl ⟨pa, _, 0, .ref c, rfl, rfl, SqL.of t4, rfl, k _ _ δ2 G2 H2 r2 s2 (.lst t5 (ints_dt _)) q⟩
  · cases hk
    exact .inl ⟨pa, _, 1, .int n', rfl, rfl, SqL.of t4, rfl, k _ _ δ2 G2 H2 r2 s2 (.int _) q⟩
  · cases hk
    exact .inl ⟨pa, _, 2, .int g', rfl, rfl, SqL.of t4, rfl, k _ _ δ2 G2 H2 r2 s2 (.int _) q⟩
  · cases hk
/-- pen[1] = .., pen[2] = .. -/
theorem JS_pen {ix : Expr} (j : Nat) (h : J X e δ fun d δ1 => ∃ v B1, d = .int v ∧ δ1[j]? = some (.pen pa B1) ∧ J X ix δ1 fun i δ2 => δ2[j]? = some (.pen pa (PX ns n g)) ∧ ((i = .int 1 ∧ E.nx (δ2.set j (.pen pa (PX ns v g)))) ∨ (i = .int 2 ∧ E.nx (δ2.set j (.pen pa (PX ns n v)))))) (hi : X.N[j]? = some x := by rfl)
    (hv : Vis X.env.scope x := by first | exact Or.inl rfl | exact Or.inr (Or.inl rfl) | exact Or.inr (Or.inr rfl)) (hd : (x == ("__debug__" : Str)) = false := by decide) (hcd : (x == ("__classdict__" : Str)) = false := by decide)
    (hs : swapsWithSole [.Subscript (.Name x px) ix p3] e pos.line X.env = pure false := by rfl) (hw : swappedStores [.Subscript (.Name x px) ix p3] e X.env = pure none := by rfl)
    (hg : ∀ {to ti : TE}, PE X (.Name x px) to → PE X ix ti → PG X (.Subscript (.Name x px) ix p3) (gSub to ti rSetL) := by intro _ _ ho hi; exact pg_sub ho hi set_list) : JS X (.Assign [.Subscript (.Name x px) ix p3] e pos) δ E := fun F σ G H D r ok =>
  US_of (ps_asg pe_U (hg (pe_var hi hv hd hcd) pe_U) hs hw) (h F σ G H _ r fun v d δ1 G1 H1 r1 s1 x1 q1 => by
    obtain ⟨v', B1, rfl, ho, q1⟩ := q1
    cases x1
    obtain ⟨o1, _⟩ := r1.slo j _ ho
    refine ⟨.ref pa, o1, q1 F σ G1 H1 _ r1 fun u i δ2 G2 H2 r2 s2 x2 q2 => ?_⟩
    obtain ⟨ho2, q2⟩ := q2
    obtain ⟨t1, t2, t3, c, ns', n', g', t4, t5, e1, e2, e3⟩ := r2.slo j _ ho2
    subst e1 e2 e3
    have step : ∀ (vs : List V) (n2 g2 : Int), vs = [.ref c, .int n2, .int g2] → Rel X.K F σ G2 (upd H2 pa (.lst vs)) (δ2.set j (.pen pa (PX ns' n2 g2))) := fun vs n2 g2 ev => by
      subst ev
      refine r2.afterP ho2 (Same.refl G2) (fun a o z => ?_) (fun a o na z1 z2 => ⟨z2, by rw [upd_ne na]; exact z1⟩) t2 ⟨c, ns', n2, g2, upd_same, t5, rfl, rfl, rfl⟩
      have na : a ≠ pa := fun w => by rw [w, t2] at z; cases z
      rw [upd_ne na]
      exact r2.ext a o z
    rcases q2 with ⟨rfl, q2⟩ | ⟨rfl, q2⟩
    · cases x2
      exact ⟨pa, _, 1, 1, rfl, rfl, t4, rfl, ok.nx σ _ G2 _ (step _ v' g' rfl) (s1.trans s2) q2⟩
    · cases x2
      exact ⟨pa, _, 2, 2, rfl, rfl, t4, rfl, ok.nx σ _ G2 _ (step _ n' v' rfl) (s1.trans s2) q2⟩)
theorem RC_intB {k : Bool} (q : Φ (.int (if k then 1 else 0)) δ) : RCJ X (fun xs H Q => (∃ i, xs = [.int i] ∧ Q (.int i) H) ∨ ∃ k, xs = [.bl k] ∧ Q (.int (if k then 1 else 0)) H) [.bool k] δ Φ := fun F σ G H Q vs r hv kk => by
  obtain ⟨v, rfl, h⟩ := da1 hv
  cases h
  exact .inr ⟨k, rfl, kk _ _ δ G H r (Same.refl G) (.int _) q⟩
theorem RC_abs {i : Int} (q : Φ (.int (if i < 0 then -i else i)) δ) : RCJ X (fun xs H Q => ∃ i, xs = [.int i] ∧ Q (.int (if i < 0 then -i else i)) H) [.int i] δ Φ := fun F σ G H Q vs r hv k => by
  obtain ⟨v, rfl, h⟩ := da1 hv
  cases h
  exact ⟨i, rfl, k _ _ δ G H r (Same.refl G) (.int _) q⟩
theorem RJ_mul {i j : Int} (hc : CMul i j) (q : Φ (.int (i * j)) δ) : RJ X (rI CMul fun i j => .int (i * j)) (.int i) (.int j) δ Φ := RJ_I hc (fun _ => .int _) q
theorem RJ_mod {i j : Int} (hc : 0 < j) (q : Φ (.int (i % j)) δ) : RJ X (rI (fun _ j => 0 < j) fun i j => .int (i % j)) (.int i) (.int j) δ Φ := RJ_I hc (fun _ => .int _) q
theorem RJ_fdiv {i j : Int} (hc : CDiv i j) (q : Φ (.int (i / j)) δ) : RJ X (rI CDiv fun i j => .int (i / j)) (.int i) (.int j) δ Φ := RJ_I hc (fun _ => .int _) q
theorem RJ_pow {i j : Int} (hc : CPow i j) (q : Φ (.int (i ^ j.toNat)) δ) : RJ X (rI CPow fun i j => .int (i ^ j.toNat)) (.int i) (.int j) δ Φ := RJ_I hc (fun _ => .int _) q
theorem lt_mod {i m : Int} (h : 0 < m) : 0 ≤ i % m ∧ i % m < m := ⟨Int.emod_nonneg i (by omega), Int.emod_lt_of_pos i h⟩
end
end DL
end

section
/-! DL9: repr, functions that make a list of their own. -/
namespace DL
open PySem PySem.Spec PyProof.Rows L2
/-- repr of data -/
def rRepr (K : PySem.W.Frag) : List V → Hp → VK → Prop := fun xs H Q => ∃ a d, xs = [.ref a] ∧ Dp K H (.ref a) d ∧ d.showable = true ∧ d.hasDict = false ∧ d.depth ≤ 60 ∧ d.shown.length ≤ sizeLine ∧ Q (.str d.shown) H
theorem call_reprD {X : Cx} (hg : X.A.guards = some []) (hu : X.A.units + 64 < cLine) : CallR X (.builtin "repr") (rRepr X.K) := by
  intro pins s σ H xs us Q I r h
  obtain ⟨a, d, rfl, hd, h1, h2, h3, h4, q⟩ := h
  obtain ⟨u, rfl, ru⟩ := vals1 r
  obtain rfl : u = .ref a := ru
  obtain ⟨as, r1⟩ := Dp.reads I d (.ref a) (.ref a) hd rfl
  exact repr_of_reads' r1 h1 (PyData.noDict_hsm h2) hg (by omega) (fun _ _ e => e) (fun h' u tk hk => ⟨.str d.shown, H, I.kept hk, ⟨u, rfl⟩, q⟩) h4
section
variable {X : Cx} {δ : List Sl} {Φ : D → List Sl → Prop} {Ω : List D → List Sl → Prop} {E : DE} {pos p p3 pp px : Pos} {x : Str} {e a b : Expr} {es : List Expr} {sts : List Stmt} {pa : Addr} {B B' : PB} {ns : List Int} {n g : Int} {k : Nat} {f : Addr} {fd : FuncData} {ps : List Str}
theorem RC_repr {xs : List D} (hc : PyData.canLay0 (.list xs) = true) (h1 : PyData.showable (.list xs) = true) (h2 : PyData.hasDict (.list xs) = false) (h3 : PyData.depth (.list xs) ≤ 60) (h4 : (PyData.shown (.list xs)).length ≤ sizeLine) (q : Φ (.str (PyData.shown (.list xs))) δ) : RCJ X (rRepr X.K) [.list xs] δ Φ := fun F σ G H Q vs r hv kk => by
  obtain ⟨v, rfl, h⟩ := da1 hv
  have hd := Dt.dp _ v hc (Dt.mono r.ext _ _ h)
  cases h with
  | lst a1 a2 => exact ⟨_, _, rfl, hd, h1, h2, h3, h4, kk _ _ δ G H r (Same.refl G) (.str _) q⟩
/-- a function of data that makes a list of its own -/
structure FnO (P : Program) (w : World) (K : PySem.W.Frag) (mg : Str → Option Value) (base : Heap) (k : Nat) (f : Addr) (fd : FuncData) (ps : List Str) (sp : List D → (List D → Prop) → Prop) : Prop where
  run : ∀ (A : Around) (outer : List Env) (s : Shared) (H : Hp) (args : Args) (us : List Value) (vs : List V) (Q : VK), GR k A → Env0 P w K mg base A outer s H → BindsTo s fd args (ps.zip us) → Vals vs us → vs.length = ps.length →
    (∃ F G ds Θ, Rel K F (vs.map some) G H (ds.map .dat) ∧ DtAll K G vs ds ∧ sp ds Θ ∧ ∀ p us xs δ' σ' G' H', Rel K (upd F p (.lst us)) σ' G' H' δ' → F p = none → Same G G' → DtAll K G' us xs → Θ xs → Q (.ref p) H') →
    codeAny (model P w) A (.call (.ref f) args) (CR CX0 outer P w H s Q E0) s
theorem fnO_of {P : Program} {w : World} {K : PySem.W.Frag} {mg : Str → Option Value} {base : Heap} {k : Nat} {f : Addr} {name qual : Str} {params : Arguments} {body : Expr} {rpos : Pos} {scope : Scope} {dvs : List V} {kws : List (Str × V)} {fd : FuncData} {N ps : List Str} {sp : List D → (List D → Prop) → Prop} (Fd : FunD K name qual params [.Return (some body) rpos] scope dvs kws f fd) (S : FnScope N ps scope)
    (hbody : ∀ (cdv : Value) (A : Around) (outer : List Env) (s : Shared) (H : Hp) (ds : List D) (Θ : List D → Prop), GR k (A.deeper (envOfC qual scope s.heap.objs.size f cdv)) → sp ds Θ → ds.length = ps.length →
      JO (bodyX P w K mg base N qual scope f cdv A outer s H) body (ds.map .dat ++ List.replicate (N.length - ds.length) .und) fun xs _ => Θ xs) :
    FnO P w K mg base (k + 1) f fd ps sp := by
  obtain ⟨oc, od, dV, kV, doc, pm, an, cdv, ct, osl, rfl, lk, hcd, _, _⟩ := Fd.ex
  refine ⟨fun A outer s H args us vs Q hr e0 hb r hl hsp => ?_⟩
  obtain ⟨F, G, ds, Θ, rl, hv, hs, hk⟩ := hsp
  have inK : K.In s.heap := e0.mod.kin.keeps (fun b o e => (e0.bs b o e).1)
  have nl : s.heap.NoLimit := e0.mod.nolimit.keeps (fun b o e => (e0.bs b o e).1)
  have kinds : ∀ y ∈ ps.zip us, scope.names.lookup y.1 = some .local ∨ (scope.names.lookup y.1 = some .cell ∧ ((cellsFrom (s.heap.objs.size + 1) scope.names []).lookup y.1).isSome = true) := by
    intro y hy
    rcases S.par y.1 (List.of_mem_zip hy).1 with q | q
    · exact Or.inl q
    · exact Or.inr ⟨q, PySem.W.cellsFrom_some _ _ _ (Or.inl q)⟩
  refine codeAny_call_function hr.room.depth (inK _ _ lk) rfl S.co S.gen rfl (PySem.W.codeRec_of inK hcd) (hb _ _ _ _ (wpAny_newFunctionEnv_cells S.kind kinds (fun env he s1 x => ?_)))
  subst he
  refine ⟨nl.keeps x.toInCall.keep, codeAny_func ?_⟩
  have la : ds.length = vs.length := hv.length.symm
  have gd : GR k (A.deeper (envOfC qual scope s.heap.objs.size f cdv)) := ⟨hr.room.deeper _, hr.gd⟩
  have hJ := hbody cdv A outer s H ds Θ gd hs (la.trans hl)
  have I : Inv (cxOf CX0 P w K mg base N qual scope f cdv A outer s H E0) [] (L2.start N vs) H s1 := inv_start S hr.room.hd e0 hl r x
  have rs := rl.start (N := N)
  rw [← la] at rs
  have run := (PSs.nox (X := cxOf CX0 P w K mg base N qual scope f cdv A outer s H E0) (t := USs (bodyX P w K mg base N qual scope f cdv A outer s H) [.Return (some body) rpos]) pss_U).run [] s1 (L2.start N vs) H { nx := fun _ H' => Q .non H', rt := Q } I
    (USs_of (pss_one (ps_ret pe_U)) (hJ F (L2.start N vs) G H _ rs fun p us xs δ' G' H' r' hf s' x' q => hk p us xs δ' _ G' H' r' hf s' x' q))
  refine wpAny_mono run (fun fl s' hq => ?_) (fun e s' hq => hq)
  cases fl with
  | ret u =>
    obtain ⟨v, σ', H', J, rv, q⟩ := hq
    exact ⟨v, H', J.os, J.bare, J.base, J.hok, rv, q⟩
  | next =>
    obtain ⟨σ', H', J, q⟩ := hq
    exact ⟨.non, H', J.os, J.bare, J.base, J.hok, rfl, q⟩
  | brk =>
    obtain ⟨_, _, _, q⟩ := hq
    exact q.elim
  | cont =>
    obtain ⟨_, _, _, q⟩ := hq
    exact q.elim
/-- f(e, ..), all by data, gives an own list -/
theorem JO_callO {sp : List D → (List D → Prop) → Prop} (Fn : FnO X.prog X.w X.K X.mg X.base k f fd ps sp) (hr : GR k X.A) (hm : X.mg x = some (.ref f)) (hk : PySem.W.keepIn X.K (.ref f) = true) (hb : Binds X.K fd ps [])
    (h : JA X (e :: es) δ fun ds δ1 => ds.length = ps.length ∧ sp ds fun xs => Ω xs δ1) (hg : Gl X x := by rfl) (hdb : (x == ("__debug__" : Str)) = false := by decide)
    (he : starEach (e :: es) X.env = (false, eval e X.env) :: starEach es X.env := by rfl) (hpl : (backTo pos (starEach es X.env)).any (·.1) = false := by rfl) : JO X (.Call (.Name x p) (e :: es) [] pos) δ Ω := fun F σ G H Q r kk pins s I => by
  refine wpAny_Call_Name_kw (ld_glob I hg hm (PySem.W.callWith_K (h₀ := X.base) I.ok.mod.kin hk ?_ he hpl) hdb)
  refine thn (h F σ G H (fun vs H1 => ∃ ds δ1 G1, Rel X.K F σ G1 H1 δ1 ∧ Same G G1 ∧ DtAll X.K G1 vs ds ∧ ds.length = ps.length ∧ sp ds fun xs => Ω xs δ1) r (fun vs ds δ1 G1 H1 r1 s1 x1 q1 => ⟨ds, δ1, G1, r1, s1, x1, q1⟩) pos pins s I) fun us s1 hq => ?_
  obtain ⟨vs, H1, I1, rv, ds, δ1, G1, r1, sg, x1, hl, hs⟩ := hq
  refine ⟨I1.kIn, wpAny_call (codeAny_mono (Fn.run X.A X.stack s1 H1 _ us vs Q hr I1.env0 (by
    have := hb s1 us I1.kIn (by rw [List.append_nil, ← rv.length, x1.length]; exact hl)
    rw [List.append_nil] at this
    exact this) rv (x1.length.trans hl) ⟨away G1 H1 none, G1, ds, _, ⟨by rw [List.length_map, List.length_map]; exact x1.length, r1.ext, fun a o z => ?_, fun i t z => dats_ok x1 i t z, fun i j t u a z _ m _ _ _ => (dats_mut z m).elim⟩, x1, hs, ?_⟩) fun r' s' q => ends_call I1 q)⟩
  · obtain ⟨h1, _, h2⟩ := away_of z
    exact ⟨h1, h2⟩
  · intro p us' xs δ' σ' G' H' r' hf s' x' q
    obtain ⟨gp, hp⟩ := r'.frm p _ upd_same
    have hp1 : H1 p = none := by
      cases e1 : H1 p with
      | none => rfl
      | some o =>
        cases e2 : G1 p with
        | none =>
          rw [away_mk (p := none) e2 (fun z => nomatch z) e1] at hf
          cases hf
        | some o2 =>
          rw [s' _ _ e2] at gp
          cases gp
    have fp : F p = none := r1.fnone hp1
    refine kk p us' xs δ1 G' H' ((r1.newF (u := .lst us') hp1).after s' r'.ext fun a o z1 z2 => ?_) fp (sg.trans s') x' q
    by_cases ha : a = p
    · subst ha
      rw [upd_same] at z1
      cases z1
      exact ⟨gp, hp⟩
    · rw [upd_ne ha] at z1
      exact r'.frm a o (by rw [upd_ne ha]; exact away_mk z2 (fun z => nomatch z) z1)
/-- an own list of a row of ints, an int, an int: a pen -/
theorem dt_ints {K : PySem.W.Frag} {G : Hp} : ∀ {ns : List Int} {vs : List V}, DtAll K G vs (ns.map PyData.int) → vs = ns.map V.int
  | [], _, h => by cases h; rfl
  | n :: ns, _, h => by
    cases h with
    | cons h1 h2 =>
      cases h1
      rw [dt_ints h2]
      rfl
theorem JSs_ownPen (i : Nat) (hi : δ[i]? = some (.own [.list (ns.map .int), .int n, .int g])) (h : ∀ pa, JSs X sts (δ.set i (.pen pa (PX ns n g))) E) : JSs X sts δ E := fun F σ G H D r ok => by
  obtain ⟨a, vs, h1, h2, h3, h4, h5⟩ := r.slo i _ hi
  obtain ⟨v1, v2, v3, rfl, q1, q2, q3⟩ : ∃ v1 v2 v3, vs = [v1, v2, v3] ∧ Dt X.K G v1 (.list (ns.map .int)) ∧ Dt X.K G v2 (.int n) ∧ Dt X.K G v3 (.int g) := by
    cases h5 with
    | cons k1 h5 =>
      cases h5 with
      | cons k2 h5 =>
        cases h5 with
        | cons k3 h5 =>
          cases h5
          exact ⟨_, _, _, rfl, k1, k2, k3⟩
  cases q2
  cases q3
  cases q1 with
  | lst c1 c2 =>
    rw [dt_ints c2] at c1
    have hl : i < δ.length := (List.getElem?_eq_some_iff.mp hi).1
    refine h a F σ G H D ⟨by rw [List.length_set]; exact r.len, r.ext, r.frm, fun j s e => ?_, fun x y s t b k1 k2 m1 m2 k3 k4 => ?_⟩ ok
    · by_cases hj : i = j
      · subst hj
        rw [List.getElem?_set_self hl] at e
        cases e
        exact ⟨h1, h2, h3, _, ns, n, g, h4, c1, rfl, rfl, rfl⟩
      · rw [List.getElem?_set_ne hj] at e
        exact r.slo j s e
    · have up : ∀ (z : Nat) (w : Sl), (δ.set i (.pen a (PX ns n g)))[z]? = some w → w.isMut = true → ∃ w', δ[z]? = some w' ∧ w'.isMut = true := fun z w q1 q2 => by
        by_cases hz : i = z
        · subst hz
          exact ⟨_, hi, rfl⟩
        · rw [List.getElem?_set_ne hz] at q1
          exact ⟨w, q1, q2⟩
      obtain ⟨s', k1', m1'⟩ := up x s k1 m1
      obtain ⟨t', k2', m2'⟩ := up y t k2 m2
      exact r.apt x y s' t' b k1' k2' m1' m2' k3 k4
end
end DL
end

section
/-! HG: the head's call, for a function of data under guards = some []. -/
namespace DL
open PySem PySem.Spec PyProof.Rows L2
/-- a law's promise: True of each row of ints -/
def spTrue : Spc := fun as Φ => ∃ ns : List Int, as = [.dat (.list (ns.map .int))] ∧ Φ (.bool true) as
theorem script_spD {K : PySem.W.Frag} {H : Hp} {a : Addr} {ns : List Int} (hS : SqL K H a (ns.map V.int)) : spD K spTrue [.ref a] H fun v _ => v = .bl true := by
  refine ⟨fun _ => none, H, [.dat (.list (ns.map .int))], fun d _ => d = .bool true, ⟨rfl, Same.refl H, nofun, fun i s e => ?_, fun i j s t b e1 _ m _ _ _ => ?_⟩, ⟨ns, rfl, rfl⟩, fun v d _ G' H' _ _ hv hd => ?_⟩
  · cases i with
    | zero =>
      cases e
      exact ⟨.ref a, rfl, .lst hS (ints_dt ns)⟩
    | succ i => cases e
  · cases i with
    | zero =>
      cases e1
      cases m
    | succ i => cases e1
  · subst hd
    cases hv
    rfl
theorem gr_caller {k : Nat} (h : Room k callerA) : GR k callerA := ⟨h, rfl⟩
/-- the promise that walk_ofE asks of a def at the caller, from FnG: wrapped so that the def is only called there -/
theorem call_here {P : Program} {w : World} {K : PySem.W.Frag} {mg : Str → Option Value} {base : Heap} {k : Nat} {f a : Addr} {fd : FuncData} {x : Str} {s : Shared} {H : Hp} {ns : List Int} (Fn : FnG P w K mg base k f fd [x] spTrue) (hr : Room k callerA)
    (e0 : Env0 P w K mg base callerA [] s H) (hb : BindsTo s fd ⟨[.ref a], []⟩ [(x, .ref a)]) (hS : SqL K H a (ns.map V.int)) :
    codeAny (model P w) callerA (.call (.ref f) ⟨[.ref a], []⟩) (CR CX0 [] P w H s (fun v _ => v = .bl true) E0) s :=
  Fn.run callerA [] s H ⟨[.ref a], []⟩ [.ref a] [.ref a] _ (gr_caller hr) e0 hb (.cons rfl .nil) rfl (script_spD hS)
section
variable {P : Program} {w : World} {K : PySem.W.Frag} {mg mb : Str → Option Value} {k : Nat} {fa a : Addr} {fd : FuncData} {x : Str} {t : Shared} {vs : List Value} {ns : List Int}
/-- what is hidden from the base is the script alone -/
theorem env_caller {H : Hp} (KX : K.In t.heap) (n1 : t.heap.Ns mainGlobals mg) (n2 : t.heap.Ns builtinsNs mb) (n3 : ∀ y : Str, y ≠ "__name__" → mb y = bootBuiltins y) (n4 : t.heap.NoLimit) (hg : t.gens = #[])
    (ha : t.heap.get? a = some { cls := .type "list", data := .seq vs.toArray }) (hok : HOk P w H t.heap) (hA : ∀ b, H b ≠ none → b = a) (hK : H a ≠ none → K.lookup a = none) :
    ∃ base : Heap, K.In base ∧ base.Ns mainGlobals mg ∧ Env0 P w K mg base callerA [] t H := by
  have only : ∀ b u, H b = some u → b = a ∧ H a ≠ none := fun b u e => by
    have z := hA b (by rw [e]; exact nofun)
    subst z
    exact ⟨rfl, by rw [e]; exact nofun⟩
  have kin : K.In (hidT t.heap H) := fun b o e => by
    refine hidT_get (KX b o e) ?_
    cases q : H b with
    | none => rfl
    | some u =>
      obtain ⟨z1, z2⟩ := only b u q
      rw [z1, hK z2] at e
      cases e
  have names : ∀ {b : Addr} {m : Str → Option Value}, t.heap.Ns b m → (hidT t.heap H).Ns b m := by
    rintro b m ⟨o, es, ep, e, d, r⟩
    refine ⟨o, es, ep, hidT_get e ?_, d, r⟩
    cases q : H b with
    | none => rfl
    | some u =>
      obtain ⟨z1, _⟩ := only b u q
      rw [z1, ha] at e
      cases e
      have d' : Data.seq vs.toArray _ = Data.dict es ep := d
      cases d'
  obtain ⟨mc, m1, m2⟩ := n4
  exact ⟨_, kin, names n1, rfl, ⟨kin, names n1, ⟨mb, names n2, n3⟩, mc, names m1, m2⟩, fun b o e => of_hidT e, Nat.le_of_eq (hidT_size _ _), trivial, fun b z => (List.not_mem_nil z).elim, hok, .of_eq hg⟩
/-- the law's call at the caller gives True and keeps the heap -/
theorem law_callG (KX : K.In t.heap) (n1 : t.heap.Ns mainGlobals mg) (n2 : t.heap.Ns builtinsNs mb) (n3 : ∀ y : Str, y ≠ "__name__" → mb y = bootBuiltins y) (n4 : t.heap.NoLimit) (hg : t.gens = #[])
    (ha : t.heap.get? a = some { cls := .type "list", data := .seq vs.toArray }) (hi : IntsAre vs ns) (hl : ns.length ≤ sizeLine) (hr : Room k callerA)
    (Fn : ∀ base : Heap, K.In base → base.Ns mainGlobals mg → FnG P w K mg base k fa fd [x] spTrue) (hb : ∀ (s : Shared) (u : Value), BindsTo s fd ⟨[u], []⟩ [(x, u)]) :
    codeAny (model P w) callerA (.call (.ref fa) ⟨[.ref a], []⟩) (fun r s' => r = .ok (.ret (.bool true)) ∧ OldK t.heap s'.heap ∧ s'.os = t.os ∧ AllBare s'.gens) t := by
  have rv := vals_ints hi
  have any : ∀ H : Hp, (∀ b, H b = none ∨ ∃ o xs, H b = some (.frz o (.lst xs))) → SqL K H a (ns.map V.int) → HOk P w H t.heap → (∀ b, H b ≠ none → b = a) → (H a ≠ none → K.lookup a = none) →
      codeAny (model P w) callerA (.call (.ref fa) ⟨[.ref a], []⟩) (fun r s' => r = .ok (.ret (.bool true)) ∧ OldK t.heap s'.heap ∧ s'.os = t.os ∧ AllBare s'.gens) t := by
    intro H hO hS hok hA hK
    obtain ⟨base, b1, b2, e0⟩ := env_caller KX n1 n2 n3 n4 hg ha hok hA hK
    refine codeAny_mono (call_here (Fn base b1 b2) hr e0 (hb t (.ref a)) hS) fun r s' h => ?_
    rcases r with e | fl
    · exact (show False from h).elim
    cases fl with
    | next => exact (show False from h).elim
    | brk => exact (show False from h).elim
    | cont => exact (show False from h).elim
    | ret u =>
      obtain ⟨v, H', o1, o2, un, ok', rel, q⟩ := h
      obtain rfl : v = .bl true := q
      obtain rfl : u = Value.bool true := rel
      refine ⟨rfl, OldK.of_keep fun b o e => ?_, o1, o2⟩
      rcases hO b with z | ⟨ob, xs, z⟩
      · exact un.keep b o e z (fun m => (List.not_mem_nil m).elim) (by simp)
      · obtain ⟨p1, _⟩ := hok b _ z
        obtain ⟨p2, _⟩ := ok' b _ (un.frzs b ob _ z)
        rw [e] at p1
        cases p1
        exact p2
  rcases hk : K.lookup a with _ | o
  · refine any (fun b => if b = a then some (.frz { cls := .type "list", data := .seq vs.toArray } (.lst (ns.map V.int))) else none) (fun b => ?_) (.inl (.inr ⟨_, if_pos rfl⟩)) (fun b u z => ?_) (fun b z => Decidable.byContradiction fun n => z (if_neg n)) fun _ => hk
    · by_cases n : b = a
      · exact .inr ⟨_, _, if_pos n⟩
      · exact .inl (if_neg n)
    · by_cases n : b = a
      · subst n
        cases (if_pos rfl).symm.trans z
        exact ⟨ha, by rw [List.length_map]; exact hl, vs, _, rv, ha⟩
      · cases (if_neg n).symm.trans z
  · have e := KX a o hk
    rw [ha] at e
    cases e
    exact any (fun _ => none) (fun _ => .inl rfl) (.inr ⟨_, vs.toArray, _, hk, rfl, rfl, rfl, by rw [List.size_toArray, hi.length]; exact hl, by simpa using rv⟩) (fun b u z => nomatch z) (fun b z => absurd rfl z) fun z => absurd rfl z
end
end DL
end

section
open PySem PySem.Spec PyProof.Rows L2 DL
/-! K04A: the text, what its pure defs compute. -/
namespace K04
def top (i : Nat) : Stmt := PySem.Challenge.pw_roomforall_k04_forms_of_steps_ends_and_b.main.body.getD i (.Pass ⟨0, 0, 0, 0⟩)
abbrev sListed : Stmt := top 3
abbrev sRow : Stmt := top 4
abbrev sName : Stmt := top 5
abbrev sNames : Stmt := top 6
abbrev FnP (K : PySem.W.Frag) (x : Str) (st : Stmt) (f : Addr) (fd : FuncData) : Prop := FunD K x x (defArgs st) (defBody st) (defScope st) [] [] f fd
/-- the built-in things that the module leaves as they are -/
structure Tx (mg : Str → Option Value) : Prop where
  isi : mg "isinstance" = none
  list : mg "list" = none
  tuple : mg "tuple" = none
  str : mg "str" = none
  len : mg "len" = none
  all : mg "all" = none
  range : mg "range" = none
  int : mg "int" = none
  abs : mg "abs" = none
  repr : mg "repr" = none
/-- its constants -/
def lettersS : Str := "abcdefghijklmnopqrstuvwxyz"
structure Tc (mg : Str → Option Value) : Prop where
  letters : ∃ t, mg "LETTERS" = some (.str lettersS t)
  mostN : ∃ t, mg "MOST_NAME" = some (.int 8 t)
  mk_ : ∃ t, mg "MAKE" = some (.str "make" t)
  cl : ∃ t, mg "CALL" = some (.str "call" t)
  gv : ∃ t, mg "GIVE" = some (.str "give" t)
  tl : ∃ t, mg "TAIL" = some (.str "tail" t)
  ms : ∃ t, mg "MOST_STEPS" = some (.int 6 t)
  mu : ∃ t, mg "MOST_USED" = some (.int 4 t)
/-! ### the mirror -/
def isRow (d : D) (l m : Int) : Bool := seqB d && (decide (l ≤ lenD d) && decide (lenD d ≤ m))
def isName : D → Bool
  | .str z => decide ((1 : Int) ≤ (z.length : Nat)) && (decide (((z.length : Nat) : Int) ≤ 8) && (signsD z).all (inS lettersS))
  | _ => false
def areNames (d : D) (l m : Int) : Bool := isRow d l m && (items d).all isName
def isRowD (d l m : D) : D := match l, m with
  | .int l, .int m => .bool (isRow d l m)
  | _, _ => .none
def areNamesD (d l m : D) : D := match l, m with
  | .int l, .int m => .bool (areNames d l m)
  | _, _ => .none
def ints2 (d l m : D) : Prop := ∃ i j, l = .int i ∧ m = .int j
def ints2ok (d l m : D) : Prop := okD d = true ∧ ∃ i j, l = .int i ∧ m = .int j
theorem isRow_seq {d : D} {l m : Int} (h : isRow d l m = true) : ∃ xs, seqOf d = some xs ∧ items d = xs ∧ l ≤ (xs.length : Nat) ∧ ((xs.length : Nat) : Int) ≤ m := by
  unfold isRow at h
  simp only [Bool.and_eq_true, decide_eq_true_eq] at h
  obtain ⟨xs, e1, e3, e2⟩ := seq_some h.1
  rw [e2] at h
  exact ⟨xs, e1, e3, h.2.1, h.2.2⟩
section
variable {P : Program} {w : World} {K : PySem.W.Frag} {mg : Str → Option Value} {base : Heap} {f : Addr} {fd : FuncData}
abbrev CalListed (P : Program) (w : World) (K : PySem.W.Frag) (mg : Str → Option Value) (base : Heap) : Prop := Cal P w K mg base "is_listed" 1 ["value"] (sp1 (fun _ => True) fun d => .bool (seqB d))
abbrev CalRow (P : Program) (w : World) (K : PySem.W.Frag) (mg : Str → Option Value) (base : Heap) : Prop := Cal P w K mg base "is_row" 2 ["value", "least", "most"] (sp3 ints2 isRowD)
abbrev CalName (P : Program) (w : World) (K : PySem.W.Frag) (mg : Str → Option Value) (base : Heap) : Prop := Cal P w K mg base "is_name" 1 ["value"] (sp1 (fun d => okD d = true) fun d => .bool (isName d))
abbrev CalNames (P : Program) (w : World) (K : PySem.W.Frag) (mg : Str → Option Value) (base : Heap) : Prop := Cal P w K mg base "are_names" 3 ["value", "least", "most"] (sp3 ints2ok areNamesD)
theorem scListed : FnScope ["value"] ["value"] (defScope sListed) := ⟨rfl, rfl, rfl, by decide +kernel, rfl, by decide +kernel, by decide +kernel⟩
theorem ok_listed (F : FnP K "is_listed" sListed f fd) (m : mg "is_listed" = some (.ref f)) (T : Tx mg) : CalListed P w K mg base := by
  refine ⟨f, fd, fnG_of F scListed (fun cdv A outer s H as Φ hr hs hl => ?_), m, F.kp, F.bindsN fun _ _ _ _ _ _ us hl => match us, hl with | [_], _ => rfl⟩
  obtain ⟨d, rfl, _, q⟩ := hs
  refine ⟨argB_ok rfl, ?_⟩
  exact JSs_one <| JS_ret <| isi2 "list" "tuple" T.isi T.list T.tuple <| J_name 0 rfl ⟨_, _, kb_list d, kb_tup d, trivial, q⟩
theorem scRow : FnScope ["value", "least", "most"] ["value", "least", "most"] (defScope sRow) := ⟨rfl, rfl, rfl, by decide +kernel, rfl, by decide +kernel, by decide +kernel⟩
theorem ok_row (F : FnP K "is_row" sRow f fd) (m : mg "is_row" = some (.ref f)) (T : Tx mg) (c1 : CalListed P w K mg base) : CalRow P w K mg base := by
  refine ⟨f, fd, fnG_of F scRow (fun cdv A outer s H as Φ hr hs hl => ?_), m, F.kp, F.bindsN fun _ _ _ _ _ _ us hl => match us, hl with | [_, _, _], _ => rfl⟩
  obtain ⟨d, _, _, rfl, ⟨l, m, rfl, rfl⟩, q⟩ := hs
  refine ⟨argB_ok rfl, JSs_one <| JS_ret <| J_and <| J_c c1 hr <| JA_cons <| J_name 0 rfl <| JA_nil ⟨rfl, _, rfl, trivial, _, rfl, fun h => ?_, fun h => ?_⟩⟩
  · obtain ⟨xs, e1, _, e2⟩ := seq_some h
    refine J_one <| J_chain op_le op_le <| J_name 1 rfl <| J_callB call_len T.len <| JA_cons <| J_name 0 rfl <| JA_nil <| RC_len e1 <| RJ_le ⟨_, rfl, fun h2 => ?_, fun h2 => ⟨trivial, ?_⟩⟩
    · refine J_name 2 rfl <| RJ_le ⟨trivial, ?_⟩
      have e : isRow d l m = decide ((xs.length : Int) ≤ m) := by simp only [isRow, h, e2, h2, Bool.true_and]
      rw [← e]
      exact q
    · have e : isRow d l m = false := by simp only [isRow, h, e2, h2, Bool.true_and, Bool.false_and]
      rw [← e]
      exact q
  · have e : isRow d l m = false := by simp only [isRow, h, Bool.false_and]
    refine ⟨trivial, ?_⟩
    rw [← e]
    exact q
theorem scName : FnScope ["value", "sign"] ["value"] (defScope sName) := ⟨rfl, rfl, rfl, by decide +kernel, rfl, by decide +kernel, by decide +kernel⟩
theorem ok_name (F : FnP K "is_name" sName f fd) (m : mg "is_name" = some (.ref f)) (T : Tx mg) (C : Tc mg) : CalName P w K mg base := by
  refine ⟨f, fd, fnG_of F scName (fun cdv A outer s H as Φ hr hs hl => ?_), m, F.kp, F.bindsN fun _ _ _ _ _ _ us hl => match us, hl with | [_], _ => rfl⟩
  obtain ⟨d, rfl, ok, q⟩ := hs
  obtain ⟨t1, C1⟩ := C.letters
  obtain ⟨t2, C2⟩ := C.mostN
  refine ⟨argB_ok rfl, JSs_one <| JS_ret <| J_and <| isi1 "str" T.isi T.str <| J_name 0 rfl ⟨_, kb_str d, _, rfl, fun h => ?_, fun h => ?_⟩⟩
  · cases d with
    | str z =>
      have hz : z.length ≤ 1000 := (okD_str ok).1
      have hz2 : z.length ≤ sizeLine := Nat.le_trans hz (by decide)
      refine J_and <| J_chain op_le op_le <| J_int <| J_callB call_len T.len <| JA_cons <| J_name 0 rfl <| JA_nil <| RC_lenS hz2 <| RJ_le ⟨_, rfl, fun h1 => ?_, fun h1 => ⟨_, rfl, nofun, fun _ => ⟨trivial, ?_⟩⟩⟩
      · refine J_gint C2 <| RJ_le ⟨_, rfl, fun h2 => ?_, fun h2 => ⟨trivial, ?_⟩⟩
        · refine J_one <| J_callB (cr_all rfl) T.all <| JA_cons <| J_ofO <| JO_lcP rfl scName.nd (blkOk_by (own := [("sign", 1)]) (N := ["value", "sign"]) (sc := defScope sName) (by decide +kernel)) <| JI_any <| J_name 0 rfl ⟨signsD z, .inr ⟨z, rfl, rfl, hz2⟩, fun _ => true, fun d => .bool (inS lettersS d), fun d hd Y hY => ?_, ?_⟩
          · obtain ⟨s0, H0, C0, cl, fp, rfl⟩ := hY
            refine JG_name 1 scName.nd ⟨rfl, fun Y2 hY2 => JTs_nil ⟨rfl, rfl, fun _ Y3 hY3 => ?_⟩⟩
            obtain ⟨s3, H3, C3, cl3, fp3, rfl⟩ := hY3
            exact J_cmp op_in_sign (by rfl) <| J_name 1 rfl <| J_gstr C1 <| RJ_inSign hd ⟨rfl, rfl⟩
          · exact JA_nil <| RC_allP ⟨trivial, fin_of q (by simp only [isName, h1, h2, Bool.true_and])⟩
        · exact fin_of q (by simp only [isName, h1, h2, Bool.true_and, Bool.false_and])
      · exact fin_of q (by simp only [isName, h1, Bool.false_and])
    | _ => cases h
  · exact ⟨trivial, fin_of q (by cases d <;> first | rfl | cases h)⟩
theorem scNames : FnScope ["value", "least", "most", "one"] ["value", "least", "most"] (defScope sNames) := ⟨rfl, rfl, rfl, by decide +kernel, rfl, by decide +kernel, by decide +kernel⟩
theorem ok_names (F : FnP K "are_names" sNames f fd) (m : mg "are_names" = some (.ref f)) (T : Tx mg) (c1 : CalRow P w K mg base) (c2 : CalName P w K mg base) : CalNames P w K mg base := by
  refine ⟨f, fd, fnG_of F scNames (fun cdv A outer s H as Φ hr hs hl => ?_), m, F.kp, F.bindsN fun _ _ _ _ _ _ us hl => match us, hl with | [_, _, _], _ => rfl⟩
  obtain ⟨d, _, _, rfl, ⟨ok, l, m, rfl, rfl⟩, q⟩ := hs
  refine ⟨argB_ok rfl, JSs_one <| JS_ret <| J_and <| J_c c1 hr <| JA_cons <| J_name 0 rfl <| JA_cons <| J_name 1 rfl <| JA_cons <| J_name 2 rfl <| JA_nil ⟨rfl, _, _, _, rfl, ⟨l, m, rfl, rfl⟩, _, rfl, fun h => ?_, fun h => ?_⟩⟩
  · obtain ⟨xs, e1, e2, _, _⟩ := isRow_seq h
    have ok' := (okD_seq ok e1).1
    refine J_one <| J_callB (cr_all rfl) T.all <| JA_cons <| J_ofO <| JO_lcP rfl scNames.nd (blkOk_by (own := [("one", 3)]) (N := ["value", "least", "most", "one"]) (sc := defScope sNames) (by decide +kernel)) <| JI_any <| J_name 0 rfl ⟨xs, .inl e1, fun _ => true, fun d => .bool (isName d), fun e he Y hY => ?_, ?_⟩
    · obtain ⟨s0, H0, C0, cl, fp, rfl⟩ := hY
      refine JG_name 3 scNames.nd ⟨rfl, fun Y2 hY2 => JTs_nil ⟨rfl, rfl, fun _ Y3 hY3 => ?_⟩⟩
      obtain ⟨s3, H3, C3, cl3, fp3, rfl⟩ := hY3
      exact J_c c2 hr <| JA_cons <| J_name 3 rfl <| JA_nil ⟨rfl, _, rfl, okAll_mem ok' he, rfl, rfl⟩
    · exact JA_nil <| RC_allP ⟨trivial, fin_of q (by simp only [areNamesD, areNames, h, e2, Bool.true_and])⟩
  · exact ⟨trivial, fin_of q (by simp only [areNamesD, areNames, h, Bool.false_and])⟩
end
end K04
end

section
open PySem PySem.Spec PyProof.Rows L2 DL
/-! K04B: steps, ends, bodies. -/
namespace K04
abbrev sStep : Stmt := top 14
abbrev sEnd : Stmt := top 15
abbrev sBody : Stmt := top 16
def words (d : D) : Bool := areNames d 0 4
def stepC (d : D) : Bool := match items d with
  | [.str w, a, b, c] => decide (w = "make") && ((isName a && isName b) && words c)
  | [.str w, a, b, c, e] => decide (w = "call") && ((isName a && (isName b && isName c)) && words e)
  | _ => false
def endC (d : D) : Bool := match items d with
  | [.str w, a] => decide (w = "give") && isName a
  | [.str w, a, b, c] => decide (w = "tail") && ((isName a && isName b) && words c)
  | _ => false
def bodyC (d : D) : Bool := match items d with
  | [a, b, c, e] => (isName a && words b) && ((isRow c 0 6 && (items c).all stepC) && endC e)
  | _ => false
theorem isRow_of {d : D} {xs : List D} (e : seqOf d = some xs) (l m : Int) : isRow d l m = (decide (l ≤ (xs.length : Nat)) && decide (((xs.length : Nat) : Int) ≤ m)) := by
  cases d <;> cases e <;> rfl
theorem items_of {d : D} {xs : List D} (e : seqOf d = some xs) : items d = xs := by simp [items, e]
theorem len4 {xs : List D} (h : xs.length = 4) : ∃ a b c d, xs = [a, b, c, d] := by
  match xs, h with
  | [a, b, c, d], _ => exact ⟨a, b, c, d, rfl⟩
theorem len5 {xs : List D} (h : xs.length = 5) : ∃ a b c d e, xs = [a, b, c, d, e] := by
  match xs, h with
  | [a, b, c, d, e], _ => exact ⟨a, b, c, d, e, rfl⟩
theorem len2 {xs : List D} (h : xs.length = 2) : ∃ a b, xs = [a, b] := by
  match xs, h with
  | [a, b], _ => exact ⟨a, b, rfl⟩
theorem at0 {xs : List D} {x : D} (h : xs[0]? = some x) : atI xs 0 = some x := atI_nat (j := 0) h
theorem at1 {xs : List D} {x : D} (h : xs[1]? = some x) : atI xs 1 = some x := atI_nat (j := 1) h
theorem at2 {xs : List D} {x : D} (h : xs[2]? = some x) : atI xs 2 = some x := atI_nat (j := 2) h
theorem at3 {xs : List D} {x : D} (h : xs[3]? = some x) : atI xs 3 = some x := atI_nat (j := 3) h
theorem at4 {xs : List D} {x : D} (h : xs[4]? = some x) : atI xs 4 = some x := atI_nat (j := 4) h
theorem isStr_ex {d : D} (h : isStr d = true) : ∃ z, d = .str z := by
  cases d <;> first | exact ⟨_, rfl⟩ | cases h
theorem stepC_no {d : D} (h : isRow d 4 5 = false) : stepC d = false := by
  unfold stepC
  cases e : seqB d with
  | false => rw [(seq_none e).2]
  | true =>
    obtain ⟨xs, e1, e2, _⟩ := seq_some e
    rw [isRow_of e1] at h
    rw [e2]
    split
    · rw [show (([_, _, _, _] : List D).length : Int) = 4 from rfl] at h
      cases h
    · rw [show (([_, _, _, _, _] : List D).length : Int) = 5 from rfl] at h
      cases h
    · rfl
theorem stepC_head {d : D} {x : D} {xs : List D} (e : seqOf d = some (x :: xs)) (h : isStr x = false) : stepC d = false := by
  unfold stepC
  rw [items_of e]
  cases x <;> first | rfl | cases h
section
variable {P : Program} {w : World} {K : PySem.W.Frag} {mg : Str → Option Value} {base : Heap} {f : Addr} {fd : FuncData}
abbrev CalStep (P : Program) (w : World) (K : PySem.W.Frag) (mg : Str → Option Value) (base : Heap) : Prop := Cal P w K mg base "is_step_form" 4 ["value"] (sp1 (fun d => okD d = true) fun d => .bool (stepC d))
abbrev CalEnd (P : Program) (w : World) (K : PySem.W.Frag) (mg : Str → Option Value) (base : Heap) : Prop := Cal P w K mg base "is_end_form" 4 ["value"] (sp1 (fun d => okD d = true) fun d => .bool (endC d))
abbrev CalBody (P : Program) (w : World) (K : PySem.W.Frag) (mg : Str → Option Value) (base : Heap) : Prop := Cal P w K mg base "is_body_form" 5 ["value"] (sp1 (fun d => okD d = true) fun d => .bool (bodyC d))
theorem scStep : FnScope ["value"] ["value"] (defScope sStep) := ⟨rfl, rfl, rfl, by decide +kernel, rfl, by decide +kernel, by decide +kernel⟩
theorem fn_step (F : FnP K "is_step_form" sStep f fd) (T : Tx mg) (C : Tc mg) (c1 : CalRow P w K mg base) (c2 : CalNames P w K mg base) : FnG P w K mg base 4 f fd ["value"] (sp1 (fun d => okD d = true) fun d => .bool (stepC d)) := by
  refine fnG_of F scStep (fun cdv A outer s H as Φ hr hs hl => ?_)
  obtain ⟨d, rfl, ok, q⟩ := hs
  obtain ⟨t1, C1⟩ := C.mk_
  obtain ⟨t2, C2⟩ := C.cl
  obtain ⟨t3, C3⟩ := C.mu
  have fin : ∀ b, stepC d = b → Φ (.bool b) [.dat d] := fun b e => fin_of q (by show PyData.bool (stepC d) = _; rw [e])
  refine ⟨argB_ok rfl, JSs_cons <| JS_if <| JT_w <| JW_or <| JT_not <| JT_val <| J_c c1 hr <| JA_cons <| J_name 0 rfl <| JA_cons <| J_int <| JA_cons <| J_int <| JA_nil ⟨rfl, _, _, _, rfl, ⟨4, 5, rfl, rfl⟩, _, rfl, fun h => ?_, fun h => ?_⟩⟩
  · exact ⟨fun _ => JSs_one <| JS_ret <| J_bool ⟨trivial, fin _ (stepC_no (by simpa using h))⟩, nofun⟩
  · obtain ⟨xs, e1, e2, h4, h5⟩ := isRow_seq (show isRow d 4 5 = true by simpa using h)
    by_cases hx4 : xs.length = 4
    · obtain ⟨p0, p1, p2, p3, rfl⟩ := len4 (xs := xs) (by omega)
      obtain ⟨ok1, _⟩ := okD_seq ok e1
      refine JW_or1 <| JT_not <| JT_val <| isi1 "str" T.isi T.str <| J_ix ix_seq <| J_name 0 rfl <| J_int <| RJ_ix e1 (at0 rfl) ⟨_, kb_str _, _, rfl, fun h => ?_, fun h => ?_⟩
      · exact JSs_one <| JS_ret <| J_bool ⟨trivial, fin _ (stepC_head e1 (by simpa using h))⟩
      · obtain ⟨z, rfl⟩ := isStr_ex (show isStr p0 = true by simpa using h)
        have ol : okD p3 = true := okAll_mem ok1 (by simp)
        have oc : okD (likeD d [p1, p2]) = true := okD_like ok e1 (by intro y hy; simp at hy ⊢; grind) (by simp)
        have sl : areNames (likeD d [p1, p2]) 2 2 = (isName p1 && isName p2) := by
          unfold areNames
          rw [isRow_of (seq_like e1), items_of (seq_like e1)]
          simp
        have sc : stepC d = (decide (z = "make") && ((isName p1 && isName p2) && words p3)) := by
          unfold stepC
          rw [items_of e1]
        refine JSs_nil <| JSs_cons <| JS_if <| JT_w <| JW_and <| JT_cmp op_eq (by rfl) <| J_ix ix_seq <| J_name 0 rfl <| J_int <| RJ_ix e1 (at0 rfl) <| J_gstr C1 <| RJ_eqS ⟨_, rfl, fun hz => ?_, fun hz => ⟨nofun, fun _ => ?_⟩⟩
        · exact JW_and1 <| JT_cmp op_eq (by rfl) <| J_callB call_len T.len <| JA_cons <| J_name 0 rfl <| JA_nil <| RC_len e1 <| J_int <| RJ_eqI ⟨_, rfl, fun _ => JSs_one <| JS_ret <| J_and <| J_c c2 hr <| JA_cons <| J_slice <| J_name 0 rfl <| JP_some <| J_int ⟨_, rfl, JP_some <| J_int ⟨_, rfl, _, e1, (by show ¬ (HT.sIx 4 0 (some 1) = 0 ∧ HT.sIx 4 4 (some 3) = 4); decide), JA_cons <| J_int <| JA_cons <| J_int <| JA_nil ⟨rfl, _, _, _, rfl, ⟨oc, 2, 2, rfl, rfl⟩, _, rfl, fun h9 => J_one <| J_c c2 hr <| JA_cons <| J_ix ix_seq <| J_name 0 rfl <| J_int <| RJ_ix e1 (at3 rfl) <| JA_cons <| J_int <| JA_cons <| J_gint C3 <| JA_nil ⟨rfl, _, _, _, rfl, ⟨ol, 0, 4, rfl, rfl⟩, trivial, fin _ (by rw [sc, hz, ← sl, show areNames (likeD d [p1, p2]) 2 2 = true from h9]; rfl)⟩, fun h9 => ⟨trivial, fin _ (by rw [sc, hz, ← sl, show areNames (likeD d [p1, p2]) 2 2 = false from h9]; rfl)⟩⟩⟩⟩, nofun⟩
        · refine JSs_nil <| JSs_cons <| JS_if <| JT_w <| JW_and <| JT_cmp op_eq (by rfl) <| J_ix ix_seq <| J_name 0 rfl <| J_int <| RJ_ix e1 (at0 rfl) <| J_gstr C2 <| RJ_eqS ⟨_, rfl, fun _ => ?_, fun _ => ⟨nofun, fun _ => ?_⟩⟩
          · exact JW_and1 <| JT_cmp op_eq (by rfl) <| J_callB call_len T.len <| JA_cons <| J_name 0 rfl <| JA_nil <| RC_len e1 <| J_int <| RJ_eqI ⟨_, rfl, nofun, fun _ => JSs_nil <| JSs_one <| JS_ret <| J_bool ⟨trivial, fin _ (by rw [sc, hz]; rfl)⟩⟩
          · exact JSs_nil <| JSs_one <| JS_ret <| J_bool ⟨trivial, fin _ (by rw [sc, hz]; rfl)⟩
    · obtain ⟨p0, p1, p2, p3, p4, rfl⟩ := len5 (xs := xs) (by omega)
      obtain ⟨ok1, _⟩ := okD_seq ok e1
      refine JW_or1 <| JT_not <| JT_val <| isi1 "str" T.isi T.str <| J_ix ix_seq <| J_name 0 rfl <| J_int <| RJ_ix e1 (at0 rfl) ⟨_, kb_str _, _, rfl, fun h => ?_, fun h => ?_⟩
      · exact JSs_one <| JS_ret <| J_bool ⟨trivial, fin _ (stepC_head e1 (by simpa using h))⟩
      · obtain ⟨z, rfl⟩ := isStr_ex (show isStr p0 = true by simpa using h)
        have ol : okD p4 = true := okAll_mem ok1 (by simp)
        have oc : okD (likeD d [p1, p2, p3]) = true := okD_like ok e1 (by intro y hy; simp at hy ⊢; grind) (by simp)
        have sl : areNames (likeD d [p1, p2, p3]) 3 3 = (isName p1 && (isName p2 && isName p3)) := by
          unfold areNames
          rw [isRow_of (seq_like e1), items_of (seq_like e1)]
          simp
        have sc : stepC d = (decide (z = "call") && ((isName p1 && (isName p2 && isName p3)) && words p4)) := by
          unfold stepC
          rw [items_of e1]
        refine JSs_nil <| JSs_cons <| JS_if <| JT_w <| JW_and <| JT_cmp op_eq (by rfl) <| J_ix ix_seq <| J_name 0 rfl <| J_int <| RJ_ix e1 (at0 rfl) <| J_gstr C1 <| RJ_eqS ⟨_, rfl, fun _ => JW_and1 <| JT_cmp op_eq (by rfl) <| J_callB call_len T.len <| JA_cons <| J_name 0 rfl <| JA_nil <| RC_len e1 <| J_int <| RJ_eqI ⟨_, rfl, nofun, fun _ => ?_⟩, fun _ => ⟨nofun, fun _ => ?_⟩⟩
        all_goals
          refine JSs_nil <| JSs_cons <| JS_if <| JT_w <| JW_and <| JT_cmp op_eq (by rfl) <| J_ix ix_seq <| J_name 0 rfl <| J_int <| RJ_ix e1 (at0 rfl) <| J_gstr C2 <| RJ_eqS ⟨_, rfl, fun hz => ?_, fun hz => ⟨nofun, fun _ => ?_⟩⟩
          · exact JW_and1 <| JT_cmp op_eq (by rfl) <| J_callB call_len T.len <| JA_cons <| J_name 0 rfl <| JA_nil <| RC_len e1 <| J_int <| RJ_eqI ⟨_, rfl, fun _ => JSs_one <| JS_ret <| J_and <| J_c c2 hr <| JA_cons <| J_slice <| J_name 0 rfl <| JP_some <| J_int ⟨_, rfl, JP_some <| J_int ⟨_, rfl, _, e1, (by show ¬ (HT.sIx 5 0 (some 1) = 0 ∧ HT.sIx 5 5 (some 4) = 5); decide), JA_cons <| J_int <| JA_cons <| J_int <| JA_nil ⟨rfl, _, _, _, rfl, ⟨oc, 3, 3, rfl, rfl⟩, _, rfl, fun h9 => J_one <| J_c c2 hr <| JA_cons <| J_ix ix_seq <| J_name 0 rfl <| J_int <| RJ_ix e1 (at4 rfl) <| JA_cons <| J_int <| JA_cons <| J_gint C3 <| JA_nil ⟨rfl, _, _, _, rfl, ⟨ol, 0, 4, rfl, rfl⟩, trivial, fin _ (by rw [sc, hz, ← sl, show areNames (likeD d [p1, p2, p3]) 3 3 = true from h9]; rfl)⟩, fun h9 => ⟨trivial, fin _ (by rw [sc, hz, ← sl, show areNames (likeD d [p1, p2, p3]) 3 3 = false from h9]; rfl)⟩⟩⟩⟩, nofun⟩
          · exact JSs_nil <| JSs_one <| JS_ret <| J_bool ⟨trivial, fin _ (by rw [sc, hz]; rfl)⟩
theorem ok_step (F : FnP K "is_step_form" sStep f fd) (m : mg "is_step_form" = some (.ref f)) (T : Tx mg) (C : Tc mg) (c1 : CalRow P w K mg base) (c2 : CalNames P w K mg base) : CalStep P w K mg base := ⟨f, fd, fn_step F T C c1 c2, m, F.kp, F.bindsN fun _ _ _ _ _ _ us hl => match us, hl with | [_], _ => rfl⟩
end
end K04
end

section
open PySem PySem.Spec PyProof.Rows L2 DL
/-! K04C: ends, bodies, the law's own readings. -/
namespace K04
theorem len3 {xs : List D} (h : xs.length = 3) : ∃ a b c, xs = [a, b, c] := by
  match xs, h with
  | [a, b, c], _ => exact ⟨a, b, c, rfl⟩
theorem endC_no {d : D} (h : isRow d 2 4 = false) : endC d = false := by
  unfold endC
  cases e : seqB d with
  | false => rw [(seq_none e).2]
  | true =>
    obtain ⟨xs, e1, e2, _⟩ := seq_some e
    rw [isRow_of e1] at h
    rw [e2]
    split
    · rw [show (([_, _] : List D).length : Int) = 2 from rfl] at h
      cases h
    · rw [show (([_, _, _, _] : List D).length : Int) = 4 from rfl] at h
      cases h
    · rfl
theorem endC_head {d : D} {x : D} {xs : List D} (e : seqOf d = some (x :: xs)) (h : isStr x = false) : endC d = false := by
  unfold endC
  rw [items_of e]
  cases x <;> first | rfl | cases h
section
variable {P : Program} {w : World} {K : PySem.W.Frag} {mg : Str → Option Value} {base : Heap} {f : Addr} {fd : FuncData}
theorem scEnd : FnScope ["value"] ["value"] (defScope sEnd) := ⟨rfl, rfl, rfl, by decide +kernel, rfl, by decide +kernel, by decide +kernel⟩
theorem fn_end (F : FnP K "is_end_form" sEnd f fd) (T : Tx mg) (C : Tc mg) (c1 : CalRow P w K mg base) (c2 : CalNames P w K mg base) (c3 : CalName P w K mg base) : FnG P w K mg base 4 f fd ["value"] (sp1 (fun d => okD d = true) fun d => .bool (endC d)) := by
  refine fnG_of F scEnd (fun cdv A outer s H as Φ hr hs hl => ?_)
  obtain ⟨d, rfl, ok, q⟩ := hs
  obtain ⟨t1, C1⟩ := C.gv
  obtain ⟨t2, C2⟩ := C.tl
  obtain ⟨t3, C3⟩ := C.mu
  have fin : ∀ b, endC d = b → Φ (.bool b) [.dat d] := fun b e => fin_of q (by show PyData.bool (endC d) = _; rw [e])
  refine ⟨argB_ok rfl, JSs_cons <| JS_if <| JT_w <| JW_or <| JT_not <| JT_val <| J_c c1 hr <| JA_cons <| J_name 0 rfl <| JA_cons <| J_int <| JA_cons <| J_int <| JA_nil ⟨rfl, _, _, _, rfl, ⟨2, 4, rfl, rfl⟩, _, rfl, fun h => ?_, fun h => ?_⟩⟩
  · exact ⟨fun _ => JSs_one <| JS_ret <| J_bool ⟨trivial, fin _ (endC_no (by simpa using h))⟩, nofun⟩
  · obtain ⟨xs, e1, e2, h4, h5⟩ := isRow_seq (show isRow d 2 4 = true by simpa using h)
    obtain ⟨ok1, _⟩ := okD_seq ok e1
    obtain ⟨p0, ys, rfl⟩ : ∃ x ys, xs = x :: ys := by
      cases xs with
      | nil => simp at h4
      | cons x ys => exact ⟨x, ys, rfl⟩
    refine JW_or1 <| JT_not <| JT_val <| isi1 "str" T.isi T.str <| J_ix ix_seq <| J_name 0 rfl <| J_int <| RJ_ix e1 (at0 rfl) ⟨_, kb_str _, _, rfl, fun h => ?_, fun h => ?_⟩
    · exact JSs_one <| JS_ret <| J_bool ⟨trivial, fin _ (endC_head e1 (by simpa using h))⟩
    · obtain ⟨z, rfl⟩ := isStr_ex (show isStr p0 = true by simpa using h)
      by_cases hx2 : ys.length = 1
      · obtain ⟨a, b, hp⟩ := len2 (xs := .str z :: ys) (by simp [hx2])
        cases hp
        have o1 : okD b = true := okAll_mem ok1 (by simp)
        have sc : endC d = (decide (z = "give") && isName b) := by
          unfold endC
          rw [items_of e1]
        refine JSs_nil <| JSs_cons <| JS_if <| JT_w <| JW_and <| JT_cmp op_eq (by rfl) <| J_ix ix_seq <| J_name 0 rfl <| J_int <| RJ_ix e1 (at0 rfl) <| J_gstr C1 <| RJ_eqS ⟨_, rfl, fun hz => ?_, fun hz => ⟨nofun, fun _ => ?_⟩⟩
        · exact JW_and1 <| JT_cmp op_eq (by rfl) <| J_callB call_len T.len <| JA_cons <| J_name 0 rfl <| JA_nil <| RC_len e1 <| J_int <| RJ_eqI ⟨_, rfl, fun _ => JSs_one <| JS_ret <| J_c c3 hr <| JA_cons <| J_ix ix_seq <| J_name 0 rfl <| J_int <| RJ_ix e1 (at1 rfl) <| JA_nil ⟨rfl, _, rfl, o1, trivial, fin _ (by rw [sc, hz]; rfl)⟩, nofun⟩
        · refine JSs_nil <| JSs_cons <| JS_if <| JT_w <| JW_and <| JT_cmp op_eq (by rfl) <| J_ix ix_seq <| J_name 0 rfl <| J_int <| RJ_ix e1 (at0 rfl) <| J_gstr C2 <| RJ_eqS ⟨_, rfl, fun _ => ?_, fun _ => ⟨nofun, fun _ => ?_⟩⟩
          · exact JW_and1 <| JT_cmp op_eq (by rfl) <| J_callB call_len T.len <| JA_cons <| J_name 0 rfl <| JA_nil <| RC_len e1 <| J_int <| RJ_eqI ⟨_, rfl, nofun, fun _ => JSs_nil <| JSs_one <| JS_ret <| J_bool ⟨trivial, fin _ (by rw [sc, hz]; rfl)⟩⟩
          · exact JSs_nil <| JSs_one <| JS_ret <| J_bool ⟨trivial, fin _ (by rw [sc, hz]; rfl)⟩
      · by_cases hx4 : ys.length = 3
        · obtain ⟨a, p1, p2, p3, hp⟩ := len4 (xs := .str z :: ys) (by simp [hx4])
          cases hp
          have ol : okD p3 = true := okAll_mem ok1 (by simp)
          have oc : okD (likeD d [p1, p2]) = true := okD_like ok e1 (by intro y hy; simp at hy ⊢; grind) (by simp)
          have sl : areNames (likeD d [p1, p2]) 2 2 = (isName p1 && isName p2) := by
            unfold areNames
            rw [isRow_of (seq_like e1), items_of (seq_like e1)]
            simp
          have sc : endC d = (decide (z = "tail") && ((isName p1 && isName p2) && words p3)) := by
            unfold endC
            rw [items_of e1]
          refine JSs_nil <| JSs_cons <| JS_if <| JT_w <| JW_and <| JT_cmp op_eq (by rfl) <| J_ix ix_seq <| J_name 0 rfl <| J_int <| RJ_ix e1 (at0 rfl) <| J_gstr C1 <| RJ_eqS ⟨_, rfl, fun _ => JW_and1 <| JT_cmp op_eq (by rfl) <| J_callB call_len T.len <| JA_cons <| J_name 0 rfl <| JA_nil <| RC_len e1 <| J_int <| RJ_eqI ⟨_, rfl, nofun, fun _ => ?_⟩, fun _ => ⟨nofun, fun _ => ?_⟩⟩
          all_goals
            refine JSs_nil <| JSs_cons <| JS_if <| JT_w <| JW_and <| JT_cmp op_eq (by rfl) <| J_ix ix_seq <| J_name 0 rfl <| J_int <| RJ_ix e1 (at0 rfl) <| J_gstr C2 <| RJ_eqS ⟨_, rfl, fun hz => ?_, fun hz => ⟨nofun, fun _ => ?_⟩⟩
            · exact JW_and1 <| JT_cmp op_eq (by rfl) <| J_callB call_len T.len <| JA_cons <| J_name 0 rfl <| JA_nil <| RC_len e1 <| J_int <| RJ_eqI ⟨_, rfl, fun _ => JSs_one <| JS_ret <| J_and <| J_c c2 hr <| JA_cons <| J_slice <| J_name 0 rfl <| JP_some <| J_int ⟨_, rfl, JP_some <| J_int ⟨_, rfl, _, e1, (by show ¬ (HT.sIx 4 0 (some 1) = 0 ∧ HT.sIx 4 4 (some 3) = 4); decide), JA_cons <| J_int <| JA_cons <| J_int <| JA_nil ⟨rfl, _, _, _, rfl, ⟨oc, 2, 2, rfl, rfl⟩, _, rfl, fun h9 => J_one <| J_c c2 hr <| JA_cons <| J_ix ix_seq <| J_name 0 rfl <| J_int <| RJ_ix e1 (at3 rfl) <| JA_cons <| J_int <| JA_cons <| J_gint C3 <| JA_nil ⟨rfl, _, _, _, rfl, ⟨ol, 0, 4, rfl, rfl⟩, trivial, fin _ (by rw [sc, hz, ← sl, show areNames (likeD d [p1, p2]) 2 2 = true from h9]; rfl)⟩, fun h9 => ⟨trivial, fin _ (by rw [sc, hz, ← sl, show areNames (likeD d [p1, p2]) 2 2 = false from h9]; rfl)⟩⟩⟩⟩, nofun⟩
            · exact JSs_nil <| JSs_one <| JS_ret <| J_bool ⟨trivial, fin _ (by rw [sc, hz]; rfl)⟩
        · have h3 : (PyData.str z :: ys).length = 3 := by simp at h4 h5 ⊢; omega
          obtain ⟨a, p1, p2, hp⟩ := len3 h3
          cases hp
          have sc : endC d = false := by
            unfold endC
            rw [items_of e1]
          refine JSs_nil <| JSs_cons <| JS_if <| JT_w <| JW_and <| JT_cmp op_eq (by rfl) <| J_ix ix_seq <| J_name 0 rfl <| J_int <| RJ_ix e1 (at0 rfl) <| J_gstr C1 <| RJ_eqS ⟨_, rfl, fun _ => JW_and1 <| JT_cmp op_eq (by rfl) <| J_callB call_len T.len <| JA_cons <| J_name 0 rfl <| JA_nil <| RC_len e1 <| J_int <| RJ_eqI ⟨_, rfl, nofun, fun _ => ?_⟩, fun _ => ⟨nofun, fun _ => ?_⟩⟩
          all_goals
            exact JSs_nil <| JSs_cons <| JS_if <| JT_w <| JW_and <| JT_cmp op_eq (by rfl) <| J_ix ix_seq <| J_name 0 rfl <| J_int <| RJ_ix e1 (at0 rfl) <| J_gstr C2 <| RJ_eqS ⟨_, rfl, fun _ => JW_and1 <| JT_cmp op_eq (by rfl) <| J_callB call_len T.len <| JA_cons <| J_name 0 rfl <| JA_nil <| RC_len e1 <| J_int <| RJ_eqI ⟨_, rfl, nofun, fun _ => JSs_nil <| JSs_one <| JS_ret <| J_bool ⟨trivial, fin _ sc⟩⟩, fun _ => ⟨nofun, fun _ => JSs_nil <| JSs_one <| JS_ret <| J_bool ⟨trivial, fin _ sc⟩⟩⟩
/-! ### bodies -/
theorem ok_end (F : FnP K "is_end_form" sEnd f fd) (m : mg "is_end_form" = some (.ref f)) (T : Tx mg) (C : Tc mg) (c1 : CalRow P w K mg base) (c2 : CalNames P w K mg base) (c3 : CalName P w K mg base) : CalEnd P w K mg base := ⟨f, fd, fn_end F T C c1 c2 c3, m, F.kp, F.bindsN fun _ _ _ _ _ _ us hl => match us, hl with | [_], _ => rfl⟩
theorem scBody : FnScope ["value", "step"] ["value"] (defScope sBody) := ⟨rfl, rfl, rfl, by decide +kernel, rfl, by decide +kernel, by decide +kernel⟩
theorem bodyC_no {d : D} (h : isRow d 4 4 = false) : bodyC d = false := by
  unfold bodyC
  cases e : seqB d with
  | false => rw [(seq_none e).2]
  | true =>
    obtain ⟨xs, e1, e2, _⟩ := seq_some e
    rw [isRow_of e1] at h
    rw [e2]
    split
    · rw [show (([_, _, _, _] : List D).length : Int) = 4 from rfl] at h
      cases h
    · rfl
theorem fn_body (F : FnP K "is_body_form" sBody f fd) (T : Tx mg) (C : Tc mg) (c1 : CalRow P w K mg base) (c2 : CalNames P w K mg base) (c3 : CalName P w K mg base) (c4 : CalStep P w K mg base) (c5 : CalEnd P w K mg base) : FnG P w K mg base 5 f fd ["value"] (sp1 (fun d => okD d = true) fun d => .bool (bodyC d)) := by
  refine fnG_of F scBody (fun cdv A outer s H as Φ hr hs hl => ?_)
  obtain ⟨d, rfl, ok, q⟩ := hs
  obtain ⟨t2, C2⟩ := C.ms
  obtain ⟨t3, C3⟩ := C.mu
  have fin : ∀ b, bodyC d = b → Φ (.bool b) [.dat d] := fun b e => fin_of q (by show PyData.bool (bodyC d) = _; rw [e])
  refine ⟨argB_ok rfl, JSs_cons <| JS_if <| JT_w <| JW_or <| JT_not <| JT_val <| J_c c1 hr <| JA_cons <| J_name 0 rfl <| JA_cons <| J_int <| JA_cons <| J_int <| JA_nil ⟨rfl, _, _, _, rfl, ⟨4, 4, rfl, rfl⟩, _, rfl, fun h => ?_, fun h => ?_⟩⟩
  · exact ⟨fun _ => JSs_one <| JS_ret <| J_bool ⟨trivial, fin _ (bodyC_no (by simpa using h))⟩, nofun⟩
  · obtain ⟨xs, e1, e2, h4, h5⟩ := isRow_seq (show isRow d 4 4 = true by simpa using h)
    obtain ⟨ok1, _⟩ := okD_seq ok e1
    obtain ⟨p0, p1, p2, p3, rfl⟩ := len4 (xs := xs) (by omega)
    have o0 : okD p0 = true := okAll_mem ok1 (by simp)
    have o1 : okD p1 = true := okAll_mem ok1 (by simp)
    have o2 : okD p2 = true := okAll_mem ok1 (by simp)
    have o3 : okD p3 = true := okAll_mem ok1 (by simp)
    have sc : bodyC d = ((isName p0 && words p1) && ((isRow p2 0 6 && (items p2).all stepC) && endC p3)) := by
      unfold bodyC
      rw [items_of e1]
    refine JW_or <| JT_not <| JT_val <| J_c c3 hr <| JA_cons <| J_ix ix_seq <| J_name 0 rfl <| J_int <| RJ_ix e1 (at0 rfl) <| JA_nil ⟨rfl, _, rfl, o0, _, rfl, fun h6 => ?_, fun h6 => ?_⟩
    · have h6' : isName p0 = false := by simpa using h6
      exact ⟨fun _ => JSs_one <| JS_ret <| J_bool ⟨trivial, fin _ (by rw [sc, h6']; rfl)⟩, nofun⟩
    · have h6' : isName p0 = true := by simpa using h6
      refine JW_or1 <| JT_not <| JT_val <| J_c c2 hr <| JA_cons <| J_ix ix_seq <| J_name 0 rfl <| J_int <| RJ_ix e1 (at1 rfl) <| JA_cons <| J_int <| JA_cons <| J_gint C3 <| JA_nil ⟨rfl, _, _, _, rfl, ⟨o1, 0, 4, rfl, rfl⟩, _, rfl, fun h7 => ?_, fun h7 => ?_⟩
      · have h7' : words p1 = false := by
          show areNames p1 0 4 = false
          simpa using h7
        exact JSs_one <| JS_ret <| J_bool ⟨trivial, fin _ (by rw [sc, h6', h7']; rfl)⟩
      · have h7' : words p1 = true := by
          show areNames p1 0 4 = true
          simpa using h7
        refine JSs_nil <| JSs_cons <| JS_if <| JT_w <| JW_or <| JT_not <| JT_val <| J_c c1 hr <| JA_cons <| J_ix ix_seq <| J_name 0 rfl <| J_int <| RJ_ix e1 (at2 rfl) <| JA_cons <| J_int <| JA_cons <| J_gint C2 <| JA_nil ⟨rfl, _, _, _, rfl, ⟨0, 6, rfl, rfl⟩, _, rfl, fun h8 => ?_, fun h8 => ?_⟩
        · have h8' : isRow p2 0 6 = false := by simpa using h8
          exact ⟨fun _ => JSs_one <| JS_ret <| J_bool ⟨trivial, fin _ (by rw [sc, h6', h7', h8']; rfl)⟩, nofun⟩
        · have h8' : isRow p2 0 6 = true := by simpa using h8
          obtain ⟨ys, g1, g2, _, _⟩ := isRow_seq h8'
          have ok' := (okD_seq o2 g1).1
          refine JW_or1 <| JT_not <| JT_val <| J_callB (cr_all rfl) T.all <| JA_cons <| J_ofO <| JO_lcP rfl scBody.nd (blkOk_by (own := [("step", 1)]) (N := ["value", "step"]) (sc := defScope sBody) (by decide +kernel)) <| JI_any <| J_ix ix_seq <| J_name 0 rfl <| J_int <| RJ_ix e1 (at2 rfl) ⟨ys, .inl g1, fun _ => true, fun d => .bool (stepC d), fun e he Y hY => ?_, ?_⟩
          · obtain ⟨s0, H0, C0, cl, fp, rfl⟩ := hY
            refine JG_name 1 scBody.nd ⟨rfl, fun Y2 hY2 => JTs_nil ⟨rfl, rfl, fun _ Y3 hY3 => ?_⟩⟩
            obtain ⟨s3, H3, C3, cl3, fp3, rfl⟩ := hY3
            exact J_c c4 hr <| JA_cons <| J_name 1 rfl <| JA_nil ⟨rfl, _, rfl, okAll_mem ok' he, rfl, rfl⟩
          · refine JA_nil <| RC_allP ⟨_, rfl, fun h9 => ?_, fun h9 => ?_⟩
            · have h9' : ys.all stepC = false := by simpa using h9
              exact JSs_one <| JS_ret <| J_bool ⟨trivial, fin _ (by rw [sc, h6', h7', h8', g2, h9']; rfl)⟩
            · have h9' : ys.all stepC = true := by simpa using h9
              exact JSs_nil <| JSs_one <| JS_ret <| J_c c5 hr <| JA_cons <| J_ix ix_seq <| J_name 0 rfl <| J_int <| RJ_ix e1 (at3 rfl) <| JA_nil ⟨rfl, _, rfl, o3, trivial, fin _ (by rw [sc, h6', h7', h8', g2, h9']; rfl)⟩
theorem ok_body (F : FnP K "is_body_form" sBody f fd) (m : mg "is_body_form" = some (.ref f)) (T : Tx mg) (C : Tc mg) (c1 : CalRow P w K mg base) (c2 : CalNames P w K mg base) (c3 : CalName P w K mg base) (c4 : CalStep P w K mg base) (c5 : CalEnd P w K mg base) : CalBody P w K mg base := ⟨f, fd, fn_body F T C c1 c2 c3 c4 c5, m, F.kp, F.bindsN fun _ _ _ _ _ _ us hl => match us, hl with | [_], _ => rfl⟩
end
end K04
end

section
open PySem PySem.Spec PyProof.Rows L2 DL
/-! K04D: the law's own readings. -/
namespace K04
abbrev sLWord : Stmt := top 21
abbrev sLWords : Stmt := top 22
abbrev sLStep : Stmt := top 23
abbrev sLEnd : Stmt := top 24
abbrev sLBody : Stmt := top 25
theorem words_of {d : D} {xs : List D} (e : seqOf d = some xs) : words d = (decide ((xs.length : Nat) < (5 : Int)) && xs.all isName) := by
  unfold words areNames
  rw [isRow_of e, items_of e]
  have h1 : decide ((0 : Int) ≤ ((xs.length : Nat) : Int)) = true := decide_eq_true (by omega)
  have h2 : decide (((xs.length : Nat) : Int) ≤ 4) = decide (((xs.length : Nat) : Int) < 5) := by
    by_cases h : ((xs.length : Nat) : Int) < 5
    · rw [decide_eq_true h, decide_eq_true (by omega)]
    · rw [decide_eq_false h, decide_eq_false (by omega)]
  rw [h1, h2, Bool.true_and]
theorem words_no {d : D} (h : seqB d = false) : words d = false := by
  unfold words areNames isRow
  rw [h, Bool.false_and, Bool.false_and]
theorem stepC_seq {d : D} (h : seqB d = false) : stepC d = false := by
  unfold stepC
  rw [(seq_none h).2]
theorem endC_seq {d : D} (h : seqB d = false) : endC d = false := by
  unfold endC
  rw [(seq_none h).2]
theorem bodyC_seq {d : D} (h : seqB d = false) : bodyC d = false := by
  unfold bodyC
  rw [(seq_none h).2]
theorem stepC_len {d : D} {xs : List D} (e : seqOf d = some xs) (h4 : xs.length ≠ 4) (h5 : xs.length ≠ 5) : stepC d = false := stepC_no (by
  rw [isRow_of e]
  by_cases h : (4 : Int) ≤ ((xs.length : Nat) : Int)
  · rw [decide_eq_false (by omega : ¬ ((xs.length : Nat) : Int) ≤ 5), Bool.and_false]
  · rw [decide_eq_false h, Bool.false_and])
section
variable {P : Program} {w : World} {K : PySem.W.Frag} {mg : Str → Option Value} {base : Heap} {f : Addr} {fd : FuncData}
abbrev CalLWord (P : Program) (w : World) (K : PySem.W.Frag) (mg : Str → Option Value) (base : Heap) : Prop := Cal P w K mg base "_law_word" 1 ["value"] (sp1 (fun d => okD d = true) fun d => .bool (isName d))
abbrev CalLWords (P : Program) (w : World) (K : PySem.W.Frag) (mg : Str → Option Value) (base : Heap) : Prop := Cal P w K mg base "_law_words" 2 ["value"] (sp1 (fun d => okD d = true) fun d => .bool (words d))
abbrev CalLStep (P : Program) (w : World) (K : PySem.W.Frag) (mg : Str → Option Value) (base : Heap) : Prop := Cal P w K mg base "_law_is_step" 3 ["value"] (sp1 (fun d => okD d = true) fun d => .bool (stepC d))
abbrev CalLEnd (P : Program) (w : World) (K : PySem.W.Frag) (mg : Str → Option Value) (base : Heap) : Prop := Cal P w K mg base "_law_is_end" 3 ["value"] (sp1 (fun d => okD d = true) fun d => .bool (endC d))
abbrev CalLBody (P : Program) (w : World) (K : PySem.W.Frag) (mg : Str → Option Value) (base : Heap) : Prop := Cal P w K mg base "_law_is_body" 4 ["value"] (sp1 (fun d => okD d = true) fun d => .bool (bodyC d))
theorem scLWord : FnScope ["value", "sign"] ["value"] (defScope sLWord) := ⟨rfl, rfl, rfl, by decide +kernel, rfl, by decide +kernel, by decide +kernel⟩
theorem ok_lword (F : FnP K "_law_word" sLWord f fd) (m : mg "_law_word" = some (.ref f)) (T : Tx mg) : CalLWord P w K mg base := by
  refine ⟨f, fd, fnG_of F scLWord (fun cdv A outer s H as Φ hr hs hl => ?_), m, F.kp, F.bindsN fun _ _ _ _ _ _ us hl => match us, hl with | [_], _ => rfl⟩
  obtain ⟨d, rfl, ok, q⟩ := hs
  refine ⟨argB_ok rfl, JSs_one <| JS_ret <| J_and <| isi1 "str" T.isi T.str <| J_name 0 rfl ⟨_, kb_str d, _, rfl, fun h => ?_, fun h => ?_⟩⟩
  · cases d with
    | str z =>
      have hz : z.length ≤ 1000 := (okD_str ok).1
      have hz2 : z.length ≤ sizeLine := Nat.le_trans hz (by decide)
      refine J_and <| J_chain op_le op_le <| J_int <| J_callB call_len T.len <| JA_cons <| J_name 0 rfl <| JA_nil <| RC_lenS hz2 <| RJ_le ⟨_, rfl, fun h1 => ?_, fun h1 => ⟨_, rfl, nofun, fun _ => ⟨trivial, ?_⟩⟩⟩
      · refine J_int <| RJ_le ⟨_, rfl, fun h2 => ?_, fun h2 => ⟨trivial, ?_⟩⟩
        · refine J_one <| J_cmp (op_eqE hr.room.units0) (by rfl) <| J_ofO <| JO_lcP rfl scLWord.nd (blkOk_by (own := [("sign", 1)]) (N := ["value", "sign"]) (sc := defScope sLWord) (by decide +kernel)) <| JI_any <| J_name 0 rfl ⟨signsD z, .inr ⟨z, rfl, rfl, hz2⟩, fun d => !inS lettersS d, fun d => d, fun d hd Y hY => ?_, ?_⟩
          · obtain ⟨s0, H0, C0, cl, fp, rfl⟩ := hY
            refine JG_name 1 scLWord.nd ⟨rfl, fun Y2 hY2 => ?_⟩
            obtain ⟨s2, H2, C2, cl2, fp2, rfl⟩ := hY2
            refine JTs_one <| JT_cmp op_notIn_sign (by rfl) <| J_name 1 rfl <| J_str <| RJ_notInSign hd ⟨_, rfl, rfl, rfl, fun _ Y3 hY3 => ?_⟩
            obtain ⟨s3, H3, C3, cl3, fp3, rfl⟩ := hY3
            exact J_name 1 rfl ⟨rfl, rfl⟩
          · refine J_lst <| JA_nil ⟨rfl, RJ_eqE ⟨trivial, fin_of q ?_⟩⟩
            rw [pick_filter]
            simp only [isName, h1, h2, Bool.true_and, Bool.false_eq_true, if_false, filter_none]
        · exact fin_of q (by simp only [isName, h1, h2, Bool.true_and, Bool.false_and])
      · exact fin_of q (by simp only [isName, h1, Bool.false_and])
    | _ => cases h
  · exact ⟨trivial, fin_of q (by cases d <;> first | rfl | cases h)⟩
theorem scLWords : FnScope ["value", "one"] ["value"] (defScope sLWords) := ⟨rfl, rfl, rfl, by decide +kernel, rfl, by decide +kernel, by decide +kernel⟩
theorem ok_lwords (F : FnP K "_law_words" sLWords f fd) (m : mg "_law_words" = some (.ref f)) (T : Tx mg) (c1 : CalLWord P w K mg base) : CalLWords P w K mg base := by
  refine ⟨f, fd, fnG_of F scLWords (fun cdv A outer s H as Φ hr hs hl => ?_), m, F.kp, F.bindsN fun _ _ _ _ _ _ us hl => match us, hl with | [_], _ => rfl⟩
  obtain ⟨d, rfl, ok, q⟩ := hs
  have fin : ∀ b, words d = b → Φ (.bool b) [.dat d] := fun b e => fin_of q (by show PyData.bool (words d) = _; rw [e])
  refine ⟨argB_ok rfl, JSs_one <| JS_ret <| J_and <| isi2 "list" "tuple" T.isi T.list T.tuple <| J_name 0 rfl ⟨_, _, kb_list d, kb_tup d, _, rfl, fun h => ?_, fun h => ?_⟩⟩
  · obtain ⟨xs, e1, e2, _⟩ := seq_some (show seqB d = true from h)
    have ok' := (okD_seq ok e1).1
    have sc := words_of e1
    refine J_and <| J_cmp op_lt (by rfl) <| J_callB call_len T.len <| JA_cons <| J_name 0 rfl <| JA_nil <| RC_len e1 <| J_int <| RJ_lt ⟨_, rfl, fun h1 => ?_, fun h1 => ⟨trivial, fin _ (by rw [sc, h1, Bool.false_and])⟩⟩
    refine J_one <| J_cmp (op_eqE hr.room.units0) (by rfl) <| J_ofO <| JO_lcP rfl scLWords.nd (blkOk_by (own := [("one", 1)]) (N := ["value", "one"]) (sc := defScope sLWords) (by decide +kernel)) <| JI_any <| J_name 0 rfl ⟨xs, .inl e1, fun d => !isName d, fun d => d, fun d hd Y hY => ?_, ?_⟩
    · obtain ⟨s0, H0, C0, cl, fp, rfl⟩ := hY
      refine JG_name 1 scLWords.nd ⟨rfl, fun Y2 hY2 => ?_⟩
      obtain ⟨s2, H2, C2, cl2, fp2, rfl⟩ := hY2
      refine JTs_one <| JT_not <| JT_val <| J_c c1 hr <| JA_cons <| J_name 1 rfl <| JA_nil ⟨rfl, _, rfl, okAll_mem ok' hd, _, rfl, rfl, rfl, fun _ Y3 hY3 => ?_⟩
      obtain ⟨s3, H3, C3, cl3, fp3, rfl⟩ := hY3
      exact J_name 1 rfl ⟨rfl, rfl⟩
    · refine J_lst <| JA_nil ⟨rfl, RJ_eqE ⟨trivial, fin _ ?_⟩⟩
      rw [pick_filter, sc, h1, Bool.true_and]
      simp only [Bool.false_eq_true, if_false, filter_none]
  · exact ⟨trivial, fin _ (words_no h)⟩
end
end K04
end

section
open PySem PySem.Spec PyProof.Rows L2 DL
/-! K04E: the law's own reading of steps. -/
namespace K04
theorem units65 {k : Nat} {A : Around} (r : Room k A) : A.units + 65 < cLine := by
  have := r.un
  omega
theorem eqv_pair (a b : Str) (i j : Int) : PyData.eqv (.tuple [.str a, .int i]) (.tuple [.str b, .int j]) = (decide (a = b) && decide (i = j)) := by
  simp only [PyData.eqv, PyData.eqvAll, Bool.and_true]
  by_cases h1 : a = b <;> by_cases h2 : i = j <;> simp [h1, h2]
theorem shp_pair {z : Str} (h : PyData.strOk z = true) (i : Int) : SeqAt.shaped (.tuple [.str z, .int i]) = true := by
  simp [SeqAt.shaped, PyData.canLay0, PyData.canLayAll0, PyData.depth, PyData.depthAll, h]
theorem pickE {xs : List D} {p : D → Bool} : (if false = true then !(pick (fun d => !p d) (fun d => d) xs).isEmpty else (pick (fun d => !p d) (fun d => d) xs).isEmpty) = xs.all p := by
  rw [pick_filter]
  simp only [Bool.false_eq_true, if_false, filter_none]
section
variable {P : Program} {w : World} {K : PySem.W.Frag} {mg : Str → Option Value} {base : Heap} {f : Addr} {fd : FuncData}
theorem scLStep : FnScope ["value", "one"] ["value"] (defScope sLStep) := ⟨rfl, rfl, rfl, by decide +kernel, rfl, by decide +kernel, by decide +kernel⟩
theorem ok_lstep (F : FnP K "_law_is_step" sLStep f fd) (m : mg "_law_is_step" = some (.ref f)) (T : Tx mg) (c1 : CalLWord P w K mg base) (c2 : CalLWords P w K mg base) : CalLStep P w K mg base := by
  refine ⟨f, fd, fnG_of F scLStep (fun cdv A outer s H as Φ hr hs hl => ?_), m, F.kp, F.bindsN fun _ _ _ _ _ _ us hl => match us, hl with | [_], _ => rfl⟩
  obtain ⟨d, rfl, ok, q⟩ := hs
  have fin : ∀ b, stepC d = b → Φ (.bool b) [.dat d] := fun b e => fin_of q (by show PyData.bool (stepC d) = _; rw [e])
  refine ⟨argB_ok rfl, JSs_cons <| JS_if <| JT_w <| JW_or <| JT_not <| JT_val <| isi2 "list" "tuple" T.isi T.list T.tuple <| J_name 0 rfl ⟨_, _, kb_list d, kb_tup d, _, rfl, fun h => ?_, fun h => ?_⟩⟩
  · have hb : seqB d = false := by
      have h' : (!seqB d) = true := h
      simpa using h'
    exact ⟨fun _ => JSs_one <| JS_ret <| J_bool ⟨trivial, fin _ (stepC_seq hb)⟩, nofun⟩
  · have hb : seqB d = true := by
      have h' : (!seqB d) = false := h
      simpa using h'
    obtain ⟨xs, e1, e2, _⟩ := seq_some hb
    obtain ⟨ok1, _⟩ := okD_seq ok e1
    refine JW_or <| JT_cmp op_notIn_seq (by rfl) <| J_callB call_len T.len <| JA_cons <| J_name 0 rfl <| JA_nil <| RC_len e1 <| J_tup <| JA_cons <| J_int <| JA_cons <| J_int <| JA_nil ⟨rfl, RJ_in rfl rfl rfl ⟨_, rfl, fun h => ?_, fun h => ?_⟩⟩
    · simp only [List.any_cons, List.any_nil, eqv_int, Bool.or_false, if_true] at h
      have h4 : xs.length ≠ 4 := by
        intro e
        rw [e] at h
        cases h
      have h5 : xs.length ≠ 5 := by
        intro e
        rw [e] at h
        cases h
      exact ⟨fun _ => JSs_one <| JS_ret <| J_bool ⟨trivial, fin _ (stepC_len e1 h4 h5)⟩, nofun⟩
    simp only [List.any_cons, List.any_nil, eqv_int, Bool.or_false, if_true] at h
    by_cases h4 : xs.length = 4
    · clear h
      obtain ⟨p0, p1, p2, p3, rfl⟩ := len4 h4
      refine JW_or1 <| JT_not <| JT_val <| isi1 "str" T.isi T.str <| J_ix ix_seq <| J_name 0 rfl <| J_int <| RJ_ix e1 (at0 rfl) ⟨_, kb_str _, _, rfl, fun h => ?_, fun h => ?_⟩
      · exact JSs_one <| JS_ret <| J_bool ⟨trivial, fin _ (stepC_head e1 (by simpa using h))⟩
      · obtain ⟨z, rfl⟩ := isStr_ex (show isStr p0 = true by simpa using h)
        have oz : PyData.strOk z = true := (okD_str (okAll_mem ok1 (by simp))).2
        have ol : okD p3 = true := okAll_mem ok1 (by simp)
        have ok2 : okAll [p1, p2] = true := okAll_of fun y hy => okAll_mem ok1 (by simp at hy ⊢; grind)
        have sc : stepC d = (decide (z = "make") && ([p1, p2].all isName && words p3)) := by
          unfold stepC
          rw [items_of e1]
          simp
        refine JSs_nil <| JSs_cons <| JS_if <| JT_cmp (op_notInD (units65 hr.room)) (by rfl) <| J_tup <| JA_cons <| J_ix ix_seq <| J_name 0 rfl <| J_int <| RJ_ix e1 (at0 rfl) <| JA_cons <| J_callB call_len T.len <| JA_cons <| J_name 0 rfl <| JA_nil <| RC_len e1 <| JA_nil ⟨rfl, J_lst <| JA_cons <| J_tup <| JA_cons <| J_str <| JA_cons <| J_int <| JA_nil ⟨rfl, JA_cons <| J_tup <| JA_cons <| J_str <| JA_cons <| J_int <| JA_nil ⟨rfl, JA_nil ⟨rfl, RJ_notInD (shp_pair oz _) (by decide +kernel) ⟨_, rfl, ?_⟩⟩⟩⟩⟩
        have hm : (!List.any [PyData.tuple [.str "make", .int 4], .tuple [.str "call", .int 5]] fun x => PyData.eqv x (.tuple [.str z, .int ([PyData.str z, p1, p2, p3].length : Nat)])) = !decide ("make" = z) := by
          simp only [List.any_cons, List.any_nil, eqv_pair, Bool.or_false]
          simp
        rw [hm]
        refine ⟨fun hz => ?_, fun hz => ?_⟩
        · have hz' : ¬ z = "make" := by
            intro e
            rw [e] at hz
            cases hz
          exact JSs_one <| JS_ret <| J_bool ⟨trivial, fin _ (by rw [sc, decide_eq_false hz', Bool.false_and])⟩
        · have hz' : z = "make" := by
            simp at hz
            exact hz.symm
          refine JSs_nil <| JSs_one <| JS_ret <| J_and <| J_cmp (op_eqE hr.room.units0) (by rfl) <| J_ofO <| JO_lcP rfl scLStep.nd (blkOk_by (own := [("one", 1)]) (N := ["value", "one"]) (sc := defScope sLStep) (by decide +kernel)) <| JI_any <| J_slice <| J_name 0 rfl <| JP_some <| J_int ⟨_, rfl, JP_some <| J_neg <| J_int ⟨_, rfl, _, rfl, _, e1, (by show ¬ (HT.sIx 4 0 (some 1) = 0 ∧ HT.sIx 4 4 (some (-1)) = 4); decide), [p1, p2], .inl (seq_like e1), fun d => !isName d, fun d => d, fun d hd Y hY => ?_, ?_⟩⟩
          · obtain ⟨s0, H0, C0, cl, fp, rfl⟩ := hY
            refine JG_name 1 scLStep.nd ⟨rfl, fun Y2 hY2 => ?_⟩
            obtain ⟨s2, H2, C2, cl2, fp2, rfl⟩ := hY2
            refine JTs_one <| JT_not <| JT_val <| J_c c1 hr <| JA_cons <| J_name 1 rfl <| JA_nil ⟨rfl, _, rfl, okAll_mem ok2 hd, _, rfl, rfl, rfl, fun _ Y3 hY3 => ?_⟩
            obtain ⟨s3, H3, C3, cl3, fp3, rfl⟩ := hY3
            exact J_name 1 rfl ⟨rfl, rfl⟩
          · refine J_lst <| JA_nil ⟨rfl, RJ_eqE ⟨_, rfl, fun h9 => ?_, fun h9 => ⟨trivial, fin _ ?_⟩⟩⟩
            · rw [pickE] at h9
              exact J_one <| J_c c2 hr <| JA_cons <| J_ix ix_seq <| J_name 0 rfl <| J_neg <| J_int ⟨_, rfl, RJ_ix e1 rfl <| JA_nil ⟨rfl, _, rfl, ol, trivial, fin _ (by rw [sc, decide_eq_true hz', h9]; rfl)⟩⟩
            · rw [pickE] at h9
              rw [sc, h9, Bool.false_and, Bool.and_false]
    · by_cases h5 : xs.length = 5
      · clear h
        obtain ⟨p0, p1, p2, p3, p4, rfl⟩ := len5 h5
        refine JW_or1 <| JT_not <| JT_val <| isi1 "str" T.isi T.str <| J_ix ix_seq <| J_name 0 rfl <| J_int <| RJ_ix e1 (at0 rfl) ⟨_, kb_str _, _, rfl, fun h => ?_, fun h => ?_⟩
        · exact JSs_one <| JS_ret <| J_bool ⟨trivial, fin _ (stepC_head e1 (by simpa using h))⟩
        · obtain ⟨z, rfl⟩ := isStr_ex (show isStr p0 = true by simpa using h)
          have oz : PyData.strOk z = true := (okD_str (okAll_mem ok1 (by simp))).2
          have ol : okD p4 = true := okAll_mem ok1 (by simp)
          have ok2 : okAll [p1, p2, p3] = true := okAll_of fun y hy => okAll_mem ok1 (by simp at hy ⊢; grind)
          have sc : stepC d = (decide (z = "call") && ([p1, p2, p3].all isName && words p4)) := by
            unfold stepC
            rw [items_of e1]
            simp
          refine JSs_nil <| JSs_cons <| JS_if <| JT_cmp (op_notInD (units65 hr.room)) (by rfl) <| J_tup <| JA_cons <| J_ix ix_seq <| J_name 0 rfl <| J_int <| RJ_ix e1 (at0 rfl) <| JA_cons <| J_callB call_len T.len <| JA_cons <| J_name 0 rfl <| JA_nil <| RC_len e1 <| JA_nil ⟨rfl, J_lst <| JA_cons <| J_tup <| JA_cons <| J_str <| JA_cons <| J_int <| JA_nil ⟨rfl, JA_cons <| J_tup <| JA_cons <| J_str <| JA_cons <| J_int <| JA_nil ⟨rfl, JA_nil ⟨rfl, RJ_notInD (shp_pair oz _) (by decide +kernel) ⟨_, rfl, ?_⟩⟩⟩⟩⟩
          have hm : (!List.any [PyData.tuple [.str "make", .int 4], .tuple [.str "call", .int 5]] fun x => PyData.eqv x (.tuple [.str z, .int ([PyData.str z, p1, p2, p3, p4].length : Nat)])) = !decide ("call" = z) := by
            simp only [List.any_cons, List.any_nil, eqv_pair, Bool.or_false]
            simp
          rw [hm]
          refine ⟨fun hz => ?_, fun hz => ?_⟩
          · have hz' : ¬ z = "call" := by
              intro e
              rw [e] at hz
              cases hz
            exact JSs_one <| JS_ret <| J_bool ⟨trivial, fin _ (by rw [sc, decide_eq_false hz', Bool.false_and])⟩
          · have hz' : z = "call" := by
              simp at hz
              exact hz.symm
            refine JSs_nil <| JSs_one <| JS_ret <| J_and <| J_cmp (op_eqE hr.room.units0) (by rfl) <| J_ofO <| JO_lcP rfl scLStep.nd (blkOk_by (own := [("one", 1)]) (N := ["value", "one"]) (sc := defScope sLStep) (by decide +kernel)) <| JI_any <| J_slice <| J_name 0 rfl <| JP_some <| J_int ⟨_, rfl, JP_some <| J_neg <| J_int ⟨_, rfl, _, rfl, _, e1, (by show ¬ (HT.sIx 5 0 (some 1) = 0 ∧ HT.sIx 5 5 (some (-1)) = 5); decide), [p1, p2, p3], .inl (seq_like e1), fun d => !isName d, fun d => d, fun d hd Y hY => ?_, ?_⟩⟩
            · obtain ⟨s0, H0, C0, cl, fp, rfl⟩ := hY
              refine JG_name 1 scLStep.nd ⟨rfl, fun Y2 hY2 => ?_⟩
              obtain ⟨s2, H2, C2, cl2, fp2, rfl⟩ := hY2
              refine JTs_one <| JT_not <| JT_val <| J_c c1 hr <| JA_cons <| J_name 1 rfl <| JA_nil ⟨rfl, _, rfl, okAll_mem ok2 hd, _, rfl, rfl, rfl, fun _ Y3 hY3 => ?_⟩
              obtain ⟨s3, H3, C3, cl3, fp3, rfl⟩ := hY3
              exact J_name 1 rfl ⟨rfl, rfl⟩
            · refine J_lst <| JA_nil ⟨rfl, RJ_eqE ⟨_, rfl, fun h9 => ?_, fun h9 => ⟨trivial, fin _ ?_⟩⟩⟩
              · rw [pickE] at h9
                exact J_one <| J_c c2 hr <| JA_cons <| J_ix ix_seq <| J_name 0 rfl <| J_neg <| J_int ⟨_, rfl, RJ_ix e1 rfl <| JA_nil ⟨rfl, _, rfl, ol, trivial, fin _ (by rw [sc, decide_eq_true hz', h9]; rfl)⟩⟩
              · rw [pickE] at h9
                rw [sc, h9, Bool.false_and, Bool.and_false]
      · have n4 : decide ((4 : Int) = ((xs.length : Nat) : Int)) = false := decide_eq_false (by omega)
        have n5 : decide ((5 : Int) = ((xs.length : Nat) : Int)) = false := decide_eq_false (by omega)
        rw [n4, n5] at h
        cases h
end
end K04
end

section
open PySem PySem.Spec PyProof.Rows L2 DL
/-! K04F: the law's own readings of ends and bodies. -/
namespace K04
theorem endC_len {d : D} {xs : List D} (e : seqOf d = some xs) (h2 : xs.length ≠ 2) (h4 : xs.length ≠ 4) : endC d = false := by
  unfold endC
  rw [items_of e]
  split
  · exact absurd rfl h2
  · exact absurd rfl h4
  · rfl
theorem bodyC_len {d : D} {xs : List D} (e : seqOf d = some xs) (h4 : xs.length ≠ 4) : bodyC d = false := by
  unfold bodyC
  rw [items_of e]
  split
  · exact absurd rfl h4
  · rfl
section
variable {P : Program} {w : World} {K : PySem.W.Frag} {mg : Str → Option Value} {base : Heap} {f : Addr} {fd : FuncData}
theorem scLEnd : FnScope ["value"] ["value"] (defScope sLEnd) := ⟨rfl, rfl, rfl, by decide +kernel, rfl, by decide +kernel, by decide +kernel⟩
theorem ok_lend (F : FnP K "_law_is_end" sLEnd f fd) (m : mg "_law_is_end" = some (.ref f)) (T : Tx mg) (c1 : CalLWord P w K mg base) (c2 : CalLWords P w K mg base) : CalLEnd P w K mg base := by
  refine ⟨f, fd, fnG_of F scLEnd (fun cdv A outer s H as Φ hr hs hl => ?_), m, F.kp, F.bindsN fun _ _ _ _ _ _ us hl => match us, hl with | [_], _ => rfl⟩
  obtain ⟨d, rfl, ok, q⟩ := hs
  have fin : ∀ b, endC d = b → Φ (.bool b) [.dat d] := fun b e => fin_of q (by show PyData.bool (endC d) = _; rw [e])
  refine ⟨argB_ok rfl, JSs_cons <| JS_if <| JT_w <| JW_or <| JT_not <| JT_val <| isi2 "list" "tuple" T.isi T.list T.tuple <| J_name 0 rfl ⟨_, _, kb_list d, kb_tup d, _, rfl, fun h => ?_, fun h => ?_⟩⟩
  · have hb : seqB d = false := by
      have h' : (!seqB d) = true := h
      simpa using h'
    exact ⟨fun _ => JSs_one <| JS_ret <| J_bool ⟨trivial, fin _ (endC_seq hb)⟩, nofun⟩
  · have hb : seqB d = true := by
      have h' : (!seqB d) = false := h
      simpa using h'
    obtain ⟨xs, e1, e2, _⟩ := seq_some hb
    obtain ⟨ok1, _⟩ := okD_seq ok e1
    refine JW_or <| JT_cmp op_notIn_seq (by rfl) <| J_callB call_len T.len <| JA_cons <| J_name 0 rfl <| JA_nil <| RC_len e1 <| J_tup <| JA_cons <| J_int <| JA_cons <| J_int <| JA_nil ⟨rfl, RJ_in rfl rfl rfl ⟨_, rfl, fun h => ?_, fun h => ?_⟩⟩
    · simp only [List.any_cons, List.any_nil, eqv_int, Bool.or_false, if_true] at h
      have h2 : xs.length ≠ 2 := by
        intro e
        rw [e] at h
        cases h
      have h4 : xs.length ≠ 4 := by
        intro e
        rw [e] at h
        cases h
      exact ⟨fun _ => JSs_one <| JS_ret <| J_bool ⟨trivial, fin _ (endC_len e1 h2 h4)⟩, nofun⟩
    simp only [List.any_cons, List.any_nil, eqv_int, Bool.or_false, if_true] at h
    by_cases h2 : xs.length = 2
    · clear h
      obtain ⟨p0, p1, rfl⟩ := len2 h2
      refine JW_or1 <| JT_not <| JT_val <| isi1 "str" T.isi T.str <| J_ix ix_seq <| J_name 0 rfl <| J_int <| RJ_ix e1 (at0 rfl) ⟨_, kb_str _, _, rfl, fun h => ?_, fun h => ?_⟩
      · exact JSs_one <| JS_ret <| J_bool ⟨trivial, fin _ (endC_head e1 (by simpa using h))⟩
      · obtain ⟨z, rfl⟩ := isStr_ex (show isStr p0 = true by simpa using h)
        have oz : PyData.strOk z = true := (okD_str (okAll_mem ok1 (by simp))).2
        have o1 : okD p1 = true := okAll_mem ok1 (by simp)
        have sc : endC d = (decide (z = "give") && isName p1) := by
          unfold endC
          rw [items_of e1]
        refine JSs_nil <| JSs_cons <| JS_if <| JT_cmp (op_eqD hr.room.units) (by rfl) <| J_tup <| JA_cons <| J_ix ix_seq <| J_name 0 rfl <| J_int <| RJ_ix e1 (at0 rfl) <| JA_cons <| J_callB call_len T.len <| JA_cons <| J_name 0 rfl <| JA_nil <| RC_len e1 <| JA_nil ⟨rfl, J_tup <| JA_cons <| J_str <| JA_cons <| J_int <| JA_nil ⟨rfl, RJ_eqD (shp_pair oz _) (by decide +kernel) ⟨_, rfl, fun hz => ?_, fun hz => ?_⟩⟩⟩
        · rw [eqv_pair] at hz
          have hz' : z = "give" := by
            simp at hz
            exact hz
          exact JSs_one <| JS_ret <| J_c c1 hr <| JA_cons <| J_ix ix_seq <| J_name 0 rfl <| J_int <| RJ_ix e1 (at1 rfl) <| JA_nil ⟨rfl, _, rfl, o1, trivial, fin _ (by rw [sc, decide_eq_true hz', Bool.true_and])⟩
        · rw [eqv_pair] at hz
          have hz' : ¬ z = "give" := by
            simp at hz
            exact hz
          refine JSs_nil <| JSs_one <| JS_ret <| J_and <| J_cmp (op_eqD hr.room.units) (by rfl) <| J_tup <| JA_cons <| J_ix ix_seq <| J_name 0 rfl <| J_int <| RJ_ix e1 (at0 rfl) <| JA_cons <| J_callB call_len T.len <| JA_cons <| J_name 0 rfl <| JA_nil <| RC_len e1 <| JA_nil ⟨rfl, J_tup <| JA_cons <| J_str <| JA_cons <| J_int <| JA_nil ⟨rfl, RJ_eqD (shp_pair oz _) (by decide +kernel) ⟨_, rfl, fun hy => ?_, fun hy => ⟨trivial, fin _ (by rw [sc, decide_eq_false hz', Bool.false_and])⟩⟩⟩⟩
          rw [eqv_pair] at hy
          simp at hy
    · by_cases h4 : xs.length = 4
      · clear h
        obtain ⟨p0, p1, p2, p3, rfl⟩ := len4 h4
        refine JW_or1 <| JT_not <| JT_val <| isi1 "str" T.isi T.str <| J_ix ix_seq <| J_name 0 rfl <| J_int <| RJ_ix e1 (at0 rfl) ⟨_, kb_str _, _, rfl, fun h => ?_, fun h => ?_⟩
        · exact JSs_one <| JS_ret <| J_bool ⟨trivial, fin _ (endC_head e1 (by simpa using h))⟩
        · obtain ⟨z, rfl⟩ := isStr_ex (show isStr p0 = true by simpa using h)
          have oz : PyData.strOk z = true := (okD_str (okAll_mem ok1 (by simp))).2
          have o1 : okD p1 = true := okAll_mem ok1 (by simp)
          have o2 : okD p2 = true := okAll_mem ok1 (by simp)
          have o3 : okD p3 = true := okAll_mem ok1 (by simp)
          have sc : endC d = (decide (z = "tail") && ((isName p1 && isName p2) && words p3)) := by
            unfold endC
            rw [items_of e1]
          refine JSs_nil <| JSs_cons <| JS_if <| JT_cmp (op_eqD hr.room.units) (by rfl) <| J_tup <| JA_cons <| J_ix ix_seq <| J_name 0 rfl <| J_int <| RJ_ix e1 (at0 rfl) <| JA_cons <| J_callB call_len T.len <| JA_cons <| J_name 0 rfl <| JA_nil <| RC_len e1 <| JA_nil ⟨rfl, J_tup <| JA_cons <| J_str <| JA_cons <| J_int <| JA_nil ⟨rfl, RJ_eqD (shp_pair oz _) (by decide +kernel) ⟨_, rfl, fun hz => ?_, fun hz => ?_⟩⟩⟩
          · rw [eqv_pair] at hz
            simp at hz
          · clear hz
            refine JSs_nil <| JSs_one <| JS_ret <| J_and <| J_cmp (op_eqD hr.room.units) (by rfl) <| J_tup <| JA_cons <| J_ix ix_seq <| J_name 0 rfl <| J_int <| RJ_ix e1 (at0 rfl) <| JA_cons <| J_callB call_len T.len <| JA_cons <| J_name 0 rfl <| JA_nil <| RC_len e1 <| JA_nil ⟨rfl, J_tup <| JA_cons <| J_str <| JA_cons <| J_int <| JA_nil ⟨rfl, RJ_eqD (shp_pair oz _) (by decide +kernel) ⟨_, rfl, fun hz => ?_, fun hz => ?_⟩⟩⟩
            · rw [eqv_pair] at hz
              have hz' : z = "tail" := by
                simp at hz
                exact hz
              refine J_and <| J_c c1 hr <| JA_cons <| J_ix ix_seq <| J_name 0 rfl <| J_int <| RJ_ix e1 (at1 rfl) <| JA_nil ⟨rfl, _, rfl, o1, _, rfl, fun h6 => ?_, fun h6 => ⟨trivial, fin _ (by rw [sc, h6, Bool.false_and, Bool.false_and, Bool.and_false])⟩⟩
              refine J_and <| J_c c1 hr <| JA_cons <| J_ix ix_seq <| J_name 0 rfl <| J_int <| RJ_ix e1 (at2 rfl) <| JA_nil ⟨rfl, _, rfl, o2, _, rfl, fun h7 => ?_, fun h7 => ⟨trivial, fin _ (by rw [sc, h7, Bool.and_false, Bool.false_and, Bool.and_false])⟩⟩
              exact J_one <| J_c c2 hr <| JA_cons <| J_ix ix_seq <| J_name 0 rfl <| J_int <| RJ_ix e1 (at3 rfl) <| JA_nil ⟨rfl, _, rfl, o3, trivial, fin _ (by rw [sc, decide_eq_true hz', h6, h7]; rfl)⟩
            · rw [eqv_pair] at hz
              have hz' : ¬ z = "tail" := by
                simp at hz
                exact hz
              exact ⟨trivial, fin _ (by rw [sc, decide_eq_false hz', Bool.false_and])⟩
      · have n4 : decide ((2 : Int) = ((xs.length : Nat) : Int)) = false := decide_eq_false (by omega)
        have n5 : decide ((4 : Int) = ((xs.length : Nat) : Int)) = false := decide_eq_false (by omega)
        rw [n4, n5] at h
        cases h
theorem scLBody : FnScope ["value", "one"] ["value"] (defScope sLBody) := ⟨rfl, rfl, rfl, by decide +kernel, rfl, by decide +kernel, by decide +kernel⟩
theorem isRow_len {d : D} {xs : List D} (e : seqOf d = some xs) (m : Int) : isRow d 0 m = decide (((xs.length : Nat) : Int) ≤ m) := by
  rw [isRow_of e, decide_eq_true (by omega : (0 : Int) ≤ ((xs.length : Nat) : Int)), Bool.true_and]
theorem isRow_noseq {d : D} (h : seqB d = false) (l m : Int) : isRow d l m = false := by
  unfold isRow
  rw [h, Bool.false_and]
theorem pickN {xs : List D} {p : D → Bool} : (if true = true then !(pick (fun d => !p d) (fun d => d) xs).isEmpty else (pick (fun d => !p d) (fun d => d) xs).isEmpty) = !xs.all p := by
  rw [pick_filter]
  simp only [if_true, filter_none]
theorem ok_lbody (F : FnP K "_law_is_body" sLBody f fd) (m : mg "_law_is_body" = some (.ref f)) (T : Tx mg) (c1 : CalLWord P w K mg base) (c2 : CalLWords P w K mg base) (c3 : CalLStep P w K mg base) (c4 : CalLEnd P w K mg base) : CalLBody P w K mg base := by
  refine ⟨f, fd, fnG_of F scLBody (fun cdv A outer s H as Φ hr hs hl => ?_), m, F.kp, F.bindsN fun _ _ _ _ _ _ us hl => match us, hl with | [_], _ => rfl⟩
  obtain ⟨d, rfl, ok, q⟩ := hs
  have fin : ∀ b, bodyC d = b → Φ (.bool b) [.dat d] := fun b e => fin_of q (by show PyData.bool (bodyC d) = _; rw [e])
  refine ⟨argB_ok rfl, JSs_cons <| JS_if <| JT_w <| JW_or <| JT_not <| JT_val <| isi2 "list" "tuple" T.isi T.list T.tuple <| J_name 0 rfl ⟨_, _, kb_list d, kb_tup d, _, rfl, fun h => ?_, fun h => ?_⟩⟩
  · have hb : seqB d = false := by
      have h' : (!seqB d) = true := h
      simpa using h'
    exact ⟨fun _ => JSs_one <| JS_ret <| J_bool ⟨trivial, fin _ (bodyC_seq hb)⟩, nofun⟩
  · have hb : seqB d = true := by
      have h' : (!seqB d) = false := h
      simpa using h'
    obtain ⟨xs, e1, e2, _⟩ := seq_some hb
    obtain ⟨ok1, _⟩ := okD_seq ok e1
    refine JW_or <| JT_cmp op_ne (by rfl) <| J_callB call_len T.len <| JA_cons <| J_name 0 rfl <| JA_nil <| RC_len e1 <| J_int <| RJ_neI ⟨_, rfl, fun h => ?_, fun h => ?_⟩
    · have h4 : xs.length ≠ 4 := by
        intro e
        rw [e] at h
        cases h
      exact ⟨fun _ => JSs_one <| JS_ret <| J_bool ⟨trivial, fin _ (bodyC_len e1 h4)⟩, nofun⟩
    · have h4 : xs.length = 4 := by
        simp at h
        omega
      obtain ⟨p0, p1, p2, p3, rfl⟩ := len4 h4
      have o0 : okD p0 = true := okAll_mem ok1 (by simp)
      have o1 : okD p1 = true := okAll_mem ok1 (by simp)
      have o2 : okD p2 = true := okAll_mem ok1 (by simp)
      have o3 : okD p3 = true := okAll_mem ok1 (by simp)
      have sc : bodyC d = ((isName p0 && words p1) && ((isRow p2 0 6 && (items p2).all stepC) && endC p3)) := by
        unfold bodyC
        rw [items_of e1]
      refine JW_or <| JT_not <| JT_val <| J_c c1 hr <| JA_cons <| J_ix ix_seq <| J_name 0 rfl <| J_int <| RJ_ix e1 (at0 rfl) <| JA_nil ⟨rfl, _, rfl, o0, _, rfl, fun h6 => ?_, fun h6 => ?_⟩
      · have h6' : isName p0 = false := by simpa using h6
        exact ⟨fun _ => JSs_one <| JS_ret <| J_bool ⟨trivial, fin _ (by rw [sc, h6']; rfl)⟩, nofun⟩
      have h6' : isName p0 = true := by simpa using h6
      refine JW_or1 <| JT_not <| JT_val <| J_c c2 hr <| JA_cons <| J_ix ix_seq <| J_name 0 rfl <| J_int <| RJ_ix e1 (at1 rfl) <| JA_nil ⟨rfl, _, rfl, o1, _, rfl, fun h7 => ?_, fun h7 => ?_⟩
      · have h7' : words p1 = false := by simpa using h7
        exact JSs_one <| JS_ret <| J_bool ⟨trivial, fin _ (by rw [sc, h6', h7']; rfl)⟩
      have h7' : words p1 = true := by simpa using h7
      refine JSs_nil <| JSs_cons <| JS_if <| JT_w <| JW_or <| JT_not <| JT_val <| isi2 "list" "tuple" T.isi T.list T.tuple <| J_ix ix_seq <| J_name 0 rfl <| J_int <| RJ_ix e1 (at2 rfl) ⟨_, _, kb_list _, kb_tup _, _, rfl, fun h => ?_, fun h => ?_⟩
      · have hb2 : seqB p2 = false := by
          have h' : (!seqB p2) = true := h
          simpa using h'
        exact ⟨fun _ => JSs_one <| JS_ret <| J_bool ⟨trivial, fin _ (by rw [sc, h6', h7', isRow_noseq hb2]; rfl)⟩, nofun⟩
      have hb2 : seqB p2 = true := by
        have h' : (!seqB p2) = false := h
        simpa using h'
      obtain ⟨ys, g1, g2, _⟩ := seq_some hb2
      have ok' := (okD_seq o2 g1).1
      have hrow := isRow_len g1 6
      refine JW_or <| JT_cmp op_gt (by rfl) <| J_callB call_len T.len <| JA_cons <| J_ix ix_seq <| J_name 0 rfl <| J_int <| RJ_ix e1 (at2 rfl) <| JA_nil <| RC_len g1 <| J_int <| RJ_gt ⟨_, rfl, fun h8 => ?_, fun h8 => ?_⟩
      · have h8' : isRow p2 0 6 = false := by
          rw [hrow]
          have := of_decide_eq_true h8
          exact decide_eq_false (by omega)
        exact ⟨fun _ => JSs_one <| JS_ret <| J_bool ⟨trivial, fin _ (by rw [sc, h6', h7', h8']; rfl)⟩, nofun⟩
      have h8' : isRow p2 0 6 = true := by
        rw [hrow]
        have := of_decide_eq_false h8
        exact decide_eq_true (by omega)
      refine JW_or1 <| JT_cmp (op_neE hr.room.units0) (by rfl) <| J_ofO <| JO_lcP rfl scLBody.nd (blkOk_by (own := [("one", 1)]) (N := ["value", "one"]) (sc := defScope sLBody) (by decide +kernel)) <| JI_any <| J_ix ix_seq <| J_name 0 rfl <| J_int <| RJ_ix e1 (at2 rfl) ⟨ys, .inl g1, fun d => !stepC d, fun d => d, fun d hd Y hY => ?_, ?_⟩
      · obtain ⟨s0, H0, C0, cl, fp, rfl⟩ := hY
        refine JG_name 1 scLBody.nd ⟨rfl, fun Y2 hY2 => ?_⟩
        obtain ⟨s2, H2, C2, cl2, fp2, rfl⟩ := hY2
        refine JTs_one <| JT_not <| JT_val <| J_c c3 hr <| JA_cons <| J_name 1 rfl <| JA_nil ⟨rfl, _, rfl, okAll_mem ok' hd, _, rfl, rfl, rfl, fun _ Y3 hY3 => ?_⟩
        obtain ⟨s3, H3, C3, cl3, fp3, rfl⟩ := hY3
        exact J_name 1 rfl ⟨rfl, rfl⟩
      · refine J_lst <| JA_nil ⟨rfl, RJ_eqE ⟨_, rfl, fun h9 => ?_, fun h9 => ?_⟩⟩
        · rw [pickN] at h9
          have h9' : ys.all stepC = false := by simpa using h9
          exact JSs_one <| JS_ret <| J_bool ⟨trivial, fin _ (by rw [sc, h6', h7', h8', g2, h9']; rfl)⟩
        · rw [pickN] at h9
          have h9' : ys.all stepC = true := by simpa using h9
          exact JSs_nil <| JSs_one <| JS_ret <| J_c c4 hr <| JA_cons <| J_ix ix_seq <| J_name 0 rfl <| J_int <| RJ_ix e1 (at3 rfl) <| JA_nil ⟨rfl, _, rfl, o3, trivial, fin _ (by rw [sc, h6', h7', h8', g2, h9']; rfl)⟩
end
end K04
end

section
open PySem PySem.Spec PyProof.Rows L2 DL
/-! K04G: pens, draws. -/
namespace K04
abbrev sPen : Stmt := top 18
abbrev sDraw : Stmt := top 19
abbrev sPick : Stmt := top 20
theorem JS_mono {X : Cx} {st : Stmt} {δ : List Sl} {E : DE} {M N : List Sl → Prop} (h : JS X st δ { E with nx := M }) (i : ∀ δ1, M δ1 → N δ1) : JS X st δ { E with nx := N } := fun F σ G H D r ok => h F σ G H D r ⟨fun σ' δ' G' H' r' s q => ok.nx σ' δ' G' H' r' s (i _ q), ok.rt, ok.bk, ok.ct⟩
theorem JSs_via {X : Cx} {st : Stmt} {sts : List Stmt} {δ : List Sl} {E : DE} (M : List Sl → Prop) (h : JS X st δ { E with nx := M }) (i : ∀ δ1, M δ1 → JSs X sts δ1 E) : JSs X (st :: sts) δ E := JSs_cons (JS_mono h i)
theorem atI_int {ns : List Int} {i : Int} (h0 : 0 ≤ i) (h1 : i < ((ns.map PyData.int).length : Nat)) : ∃ c, atI (ns.map PyData.int) i = some (.int c) := by
  obtain ⟨j, rfl⟩ := Int.eq_ofNat_of_zero_le h0
  have hj : j < ns.length := by
    rw [List.length_map] at h1
    omega
  exact ⟨ns[j], atI_nat (j := j) (by simp [hj])⟩
/-- what a draw promises -/
def spDraw : Spc := fun as Φ => ∃ pa k m, as = [.pen pa (PK k), .dat (.int m)] ∧ 1 ≤ m ∧ m ≤ 1000 ∧ k ≤ 100000 ∧ ∀ x : Int, 0 ≤ x → x < m → Φ (.int x) [.pen pa (PK (k + 1)), .dat (.int m)]
theorem pk_le {k l : Int} (h : k ≤ l) : ∀ ns n g, PK k ns n g → PK l ns n g := fun ns n g ⟨a, b, c, d⟩ => ⟨a, b, by omega, d⟩
theorem natAbs_lt {x : Int} {b : Nat} (h0 : 0 ≤ x) (h : x < (b : Int)) : x.natAbs < b := by omega
section
variable {P : Program} {w : World} {K : PySem.W.Frag} {mg : Str → Option Value} {base : Heap} {f : Addr} {fd : FuncData}
abbrev CalDraw (P : Program) (w : World) (K : PySem.W.Frag) (mg : Str → Option Value) (base : Heap) : Prop := Cal P w K mg base "_law_draw" 1 ["pen", "many"] spDraw
theorem scDraw : FnScope ["pen", "many", "digit", "at", "cell", "great", "mixed"] ["pen", "many"] (defScope sDraw) := ⟨rfl, rfl, rfl, by decide +kernel, rfl, by decide +kernel, by decide +kernel⟩
theorem ok_draw (F : FnP K "_law_draw" sDraw f fd) (m : mg "_law_draw" = some (.ref f)) (T : Tx mg) : CalDraw P w K mg base := by
  refine ⟨f, fd, fnG_of F scDraw (fun cdv A outer s H as Φ hr hs hl => ?_), m, F.kp, F.bindsN fun _ _ _ _ _ _ us hl => match us, hl with | [_, _], _ => rfl⟩
  obtain ⟨pa, k, m, rfl, m1, m2, hk, q⟩ := hs
  have fin : ∀ (x : Int) (r : List Sl), 0 ≤ x → x < m → r.length = 6 → keepP [.pen pa (PK k), .dat (.int m)] (.pen pa (PK (k + 1)) :: r) ∧ Φ (.int x) (retP [.pen pa (PK k), .dat (.int m)] (.pen pa (PK (k + 1)) :: r)) := fun x r h0 h1 hr => by
    match r, hr with
    | s :: r', _ => exact ⟨⟨⟨_, rfl⟩, trivial⟩, q x h0 h1⟩
  refine ⟨argB_ok rfl, JSs_cons <| JS_if <| JT_cmp op_lt (by rfl) <| J_name 1 rfl <| J_int <| RJ_lt ⟨_, rfl, fun h => ?_, fun h => ?_⟩⟩
  · have h' := of_decide_eq_true h
    exact JSs_penW 0 rfl (pk_le (by omega : k ≤ k + 1)) <| JSs_one <| JS_ret <| J_int (fin 0 _ (by omega) (by omega) rfl)
  · have h' := of_decide_eq_false h
    refine JSs_nil <| JSs_penX 0 rfl fun ns n g hP => ?_
    obtain ⟨hP1, hP2, hP3, hP4⟩ := hP
    refine JSs_cons <| JS_if <| JT_cmp op_gt (by rfl) <| J_pen 0 rfl <| J_int ⟨2, _, rfl, rfl, rfl, J_int <| RJ_gt ⟨_, rfl, fun hg => ?_, fun hg => ?_⟩⟩
    · have hg' := of_decide_eq_true hg
      refine JSs_cons <| JS_asg 2 scDraw.nd <| J_bin op_mod <| J_callTy call_int1 T.int <| JA_cons <| J_pen 0 rfl <| J_int ⟨2, _, rfl, rfl, rfl, JA_nil <| RC_int <| J_name 1 rfl <| RJ_mod (by omega) ?_⟩
      refine JSs_cons <| JS_pen (pa := pa) (ns := ns) (n := n) (g := g) 0 <| J_bin op_fdiv <| J_callTy call_int1 T.int <| JA_cons <| J_pen 0 rfl <| J_int ⟨2, _, rfl, rfl, rfl, JA_nil <| RC_int <| J_name 1 rfl <| RJ_fdiv ⟨by omega, by omega⟩ ⟨_, _, rfl, rfl, J_int ⟨rfl, .inr ⟨rfl, ?_⟩⟩⟩⟩
      refine JSs_penW 0 rfl (fun a b c ⟨e1, e2, e3⟩ => ?_) <| JSs_one <| JS_ret <| J_name 2 rfl (fin _ _ (lt_mod (by omega)).1 (lt_mod (by omega)).2 rfl)
      subst e1 e2 e3
      exact ⟨hP1, hP2, by omega, Int.ediv_nonneg hP4 (by omega)⟩
    · refine JSs_nil <| JSs_cons <| JS_asg 3 scDraw.nd <| J_pen 0 rfl <| J_int ⟨1, _, rfl, rfl, rfl, ?_⟩
      refine JSs_cons <| JS_pen (pa := pa) (ns := ns) (n := n) (g := g) 0 <| J_bin op_add <| J_name 3 rfl <| J_int <| RJ_add ⟨_, _, rfl, rfl, J_int ⟨rfl, .inl ⟨rfl, ?_⟩⟩⟩
      refine JSs_cons <| JS_asg 4 scDraw.nd <| J_bin op_add <| J_bin op_mul <| J_int <| J_name 3 rfl <| RJ_mul (.inl ⟨by decide, by decide⟩) <| J_int <| RJ_add ?_
      refine JSs_via (fun δ1 => ∃ c : Int, δ1 = [.pen pa (PX ns (n + 1) g), .dat (.int m), .und, .dat (.int n), .dat (.int c), .und, .und]) (JS_if <| JT_cmp (op_neE hr.room.units0) (by rfl) <| J_pen 0 rfl <| J_int ⟨0, _, rfl, rfl, rfl, J_lst <| JA_nil ⟨rfl, RJ_eqE ⟨_, rfl, fun he => ?_, fun he => JSs_nil ⟨_, rfl⟩⟩⟩⟩) ?_
      · have hpos : (0 : Int) < ((ns.map PyData.int).length : Nat) := by
          cases ns with
          | nil => cases he
          | cons a b => simp
        obtain ⟨c, hc⟩ := atI_int (lt_mod (i := n) hpos).1 (lt_mod (i := n) hpos).2
        exact JSs_one <| JS_asg 4 scDraw.nd <| J_ix ix_seq <| J_pen 0 rfl <| J_int ⟨0, _, rfl, rfl, rfl, J_bin op_mod <| J_callTy call_int1 T.int <| JA_cons <| J_name 3 rfl <| JA_nil <| RC_int <| J_callB call_len T.len <| JA_cons <| J_pen 0 rfl <| J_int ⟨0, _, rfl, rfl, rfl, JA_nil <| RC_len rfl <| RJ_mod hpos <| RJ_ix rfl hc ⟨c, rfl⟩⟩⟩
      rintro _ ⟨c, rfl⟩
      have penk : ∀ (g2 : Int), 0 ≤ g2 → ∀ a b d, PX ns (n + 1) g2 a b d → PK (k + 1) a b d := fun g2 h2 a b d ⟨e1, e2, e3⟩ => by
        subst e1 e2 e3
        exact ⟨hP1, by omega, by omega, h2⟩
      refine JSs_via (fun δ1 => δ1 = [.pen pa (PX ns (n + 1) g), .dat (.int m), .und, .dat (.int n), .dat (.int c), .und, .und]) (JS_if <| JT_w <| JW_and <| JT_cmp op_lt (by rfl) <| J_name 3 rfl <| J_callB call_len T.len <| JA_cons <| J_pen 0 rfl <| J_int ⟨0, _, rfl, rfl, rfl, JA_nil <| RC_len rfl <| RJ_lt ⟨_, rfl, fun h1 => ?_, fun h1 => ⟨nofun, fun _ => JSs_nil rfl⟩⟩⟩) ?_
      · refine JW_and1 <| JT_cmp op_ge (by rfl) <| J_callB call_abs T.abs <| JA_cons <| J_name 4 rfl <| JA_nil <| RC_abs <| J_bin op_pow <| J_int <| J_int <| RJ_pow ⟨by decide, by decide, by decide⟩ <| RJ_ge ⟨_, rfl, fun h2 => ?_, fun h2 => JSs_nil rfl⟩
        have h2' := of_decide_eq_true h2
        refine JSs_via (fun δ1 => ∃ r : Int, 0 ≤ r ∧ δ1 = [.pen pa (PX ns (n + 1) g), .dat (.int m), .und, .dat (.int n), .dat (.int c), .dat (.int r), .und]) (JS_asg 5 scDraw.nd <| J_bin op_add <| J_bin op_mul <| J_int <| J_bin op_sub <| J_callB call_abs T.abs <| JA_cons <| J_name 4 rfl <| JA_nil <| RC_abs <| J_bin op_pow <| J_int <| J_int <| RJ_pow ⟨by decide, by decide, by decide⟩ <| RJ_sub <| RJ_mul (.inl ⟨by decide, by decide⟩) <| J_callTy call_int1 T.int <| JA_cons <| J_cmp op_lt (by rfl) <| J_name 4 rfl <| J_int <| RJ_lt <| JA_nil <| RC_intB <| RJ_add ⟨_, ?_, rfl⟩) ?_
        · generalize (10 : Int) ^ Int.toNat 18 = z at h2' ⊢
          by_cases hc : decide (c < 0) = true
          · rw [hc]
            simp
            omega
          · have hc' : decide (c < 0) = false := by simpa using hc
            rw [hc']
            simp
            omega
        rintro _ ⟨r, hr0, rfl⟩
        refine JSs_cons <| JS_pen (pa := pa) (ns := ns) (n := n + 1) (g := g) 0 <| J_bin op_fdiv <| J_callTy call_int1 T.int <| JA_cons <| J_name 5 rfl <| JA_nil <| RC_int <| J_name 1 rfl <| RJ_fdiv ⟨by omega, by omega⟩ ⟨_, _, rfl, rfl, J_int ⟨rfl, .inr ⟨rfl, ?_⟩⟩⟩
        exact JSs_penW 0 rfl (penk _ (Int.ediv_nonneg hr0 (by omega))) <| JSs_one <| JS_ret <| J_bin op_mod <| J_callTy call_int1 T.int <| JA_cons <| J_name 5 rfl <| JA_nil <| RC_int <| J_name 1 rfl <| RJ_mod (by omega) (fin _ _ (lt_mod (by omega)).1 (lt_mod (by omega)).2 rfl)
      rintro _ rfl
      have c1 := lt_mod (i := c) (by decide : (0 : Int) < 2147483549)
      refine JSs_via (fun δ1 => ∃ r : Int, 0 ≤ r ∧ r < 2147483629 ∧ δ1 = [.pen pa (PX ns (n + 1) g), .dat (.int m), .und, .dat (.int n), .dat (.int c), .und, .dat (.int r)]) (JS_asg 6 scDraw.nd <| J_bin op_mod <| J_callTy call_int1 T.int <| JA_cons <| J_bin op_pow <| J_bin op_add <| J_bin op_add <| J_bin op_mod <| J_callTy call_int1 T.int <| JA_cons <| J_name 4 rfl <| JA_nil <| RC_int <| J_int <| RJ_mod (by decide) <| J_bin op_mul <| J_int <| J_name 3 rfl <| RJ_mul (.inl ⟨by decide, by decide⟩) <| RJ_add <| J_int <| RJ_add <| J_int <| RJ_pow ⟨by decide, by decide, natAbs_lt (b := 2 ^ 64) (by omega) (by omega)⟩ <| JA_nil <| RC_int <| J_int <| RJ_mod (by decide) ⟨_, (lt_mod (by decide)).1, (lt_mod (by decide)).2, rfl⟩) ?_
      rintro _ ⟨r, r0, r1, rfl⟩
      have n0 : (0 : Int) ≤ n := hP2
      have n1 : n ≤ 100000 := by omega
      have t1 : 0 ≤ 2 * n + 6189 ∧ 2 * n + 6189 ≤ 206189 := by omega
      have b1 : r * (2 * n + 6189) ≤ 2147483629 * 206189 := Int.le_trans (Int.mul_le_mul_of_nonneg_right (by omega : r ≤ 2147483629) t1.1) (Int.mul_le_mul_of_nonneg_left t1.2 (by omega))
      have b0 : 0 ≤ r * (2 * n + 6189) := Int.mul_nonneg r0 t1.1
      have d0 : 0 ≤ 71147 * n * n := Int.mul_nonneg (by omega) n0
      have d1 : 71147 * n * n ≤ 71147 * 100000 * 100000 := Int.le_trans (Int.mul_le_mul_of_nonneg_left n1 (by omega : (0 : Int) ≤ 71147 * n)) (by omega)
      refine JSs_via (fun δ1 => ∃ r : Int, 0 ≤ r ∧ δ1 = [.pen pa (PX ns (n + 1) g), .dat (.int m), .und, .dat (.int n), .dat (.int c), .und, .dat (.int r)]) (JS_asg 6 scDraw.nd <| J_bin op_mod <| J_callTy call_int1 T.int <| JA_cons <| J_bin op_pow <| J_bin op_add <| J_bin op_add <| J_bin op_mul <| J_name 6 rfl <| J_bin op_add <| J_bin op_mul <| J_int <| J_name 3 rfl <| RJ_mul (.inl ⟨by decide, by decide⟩) <| J_int <| RJ_add <| RJ_mul (.inl ⟨by omega, by omega⟩) <| J_bin op_mul <| J_bin op_mul <| J_int <| J_name 3 rfl <| RJ_mul (.inl ⟨by decide, by decide⟩) <| J_name 3 rfl <| RJ_mul (.inr ⟨by omega, by omega⟩) <| RJ_add <| J_int <| RJ_add <| J_int <| RJ_pow ⟨by decide, by decide, natAbs_lt (b := 2 ^ 64) (by omega) (by omega)⟩ <| JA_nil <| RC_int <| J_int <| RJ_mod (by decide) ⟨_, (lt_mod (by decide)).1, rfl⟩) ?_
      rintro _ ⟨r2, _, rfl⟩
      exact JSs_penW 0 rfl (penk _ hP4) <| JSs_one <| JS_ret <| J_bin op_mod <| J_callTy call_int1 T.int <| JA_cons <| J_bin op_fdiv <| J_name 6 rfl <| J_int <| RJ_fdiv ⟨by decide, by decide⟩ <| JA_nil <| RC_int <| J_name 1 rfl <| RJ_mod (by omega) (fin _ _ (lt_mod (by omega)).1 (lt_mod (by omega)).2 rfl)
end
end K04
end

section
open PySem PySem.Spec PyProof.Rows L2 DL
/-! K04H: picks, odd rows. -/
namespace K04
abbrev sOdd : Stmt := top 26
def oddList : List D := [.none, .int 5, .str "a", .str "A", .str "", .tuple [], .list [.str "a"], .list [.str "a", .str "a", .str "a", .str "a"], .list [.str "a", .str "a", .str "a", .str "a", .str "a"], .str "make", .str "call", .str "give", .str "tail", .str "abcdefghi", .dict [], .bool true, .tuple [.str "a", .int 5]]
theorem odd_ok : okAll oddList = true := by decide +kernel
def moreList : List D := [.str "a", .tuple [], .list [], .none]
theorem more_ok : okAll moreList = true := by decide +kernel
def spPick : Spc := fun as Φ => ∃ pa k d xs, as = [.pen pa (PK k), .dat d] ∧ seqOf d = some xs ∧ 1 ≤ xs.length ∧ xs.length ≤ 1000 ∧ k ≤ 100000 ∧ ∀ x ∈ xs, Φ x [.pen pa (PK (k + 1)), .dat d]
def spOdd : Spc := fun as Φ => ∃ pa k d xs, as = [.pen pa (PK k), .dat d] ∧ seqOf d = some xs ∧ 1 ≤ xs.length ∧ xs.length ≤ 100 ∧ okD d = true ∧ k ≤ 90000 ∧ ∀ x, okD x = true → Φ x [.pen pa (PK (k + 3)), .dat d]
theorem okD_list {xs : List D} (h : okAll xs = true) (hl : xs.length ≤ 1000) : okD (.list xs) = true := by simp [okD, h, hl]
theorem okD_tup {xs : List D} (h : okAll xs = true) (hl : xs.length ≤ 1000) : okD (.tuple xs) = true := by simp [okD, h, hl]
theorem okAll_app {xs ys : List D} (h : okAll xs = true) (g : okAll ys = true) : okAll (xs ++ ys) = true := okAll_of fun x hx => by
  rcases List.mem_append.mp hx with q | q
  · exact okAll_mem h q
  · exact okAll_mem g q
theorem okAll_set {xs : List D} {m : Nat} {d : D} (h : okAll xs = true) (g : okD d = true) : okAll (xs.set m d) = true := okAll_of fun x hx => by
  rcases List.mem_or_eq_of_mem_set hx with q | q
  · exact okAll_mem h q
  · rw [q]
    exact g
theorem okAll_cut {xs : List D} (h : okAll xs = true) (l u : Option Int) : okAll (DL.cutD xs l u) = true := okAll_of fun x hx => okAll_mem h (List.mem_of_mem_drop (List.mem_of_mem_take hx))
theorem cut_len (xs : List D) (l u : Option Int) : (DL.cutD xs l u).length ≤ xs.length := by
  unfold DL.cutD
  rw [List.length_take, List.length_drop]
  omega
section
variable {P : Program} {w : World} {K : PySem.W.Frag} {mg : Str → Option Value} {base : Heap} {f : Addr} {fd : FuncData}
abbrev CalPick (P : Program) (w : World) (K : PySem.W.Frag) (mg : Str → Option Value) (base : Heap) : Prop := Cal P w K mg base "_law_pick" 2 ["pen", "some"] spPick
abbrev CalOdd (P : Program) (w : World) (K : PySem.W.Frag) (mg : Str → Option Value) (base : Heap) : Prop := Cal P w K mg base "_law_odd" 3 ["pen", "value"] spOdd
theorem J_lenOwn {X : Cx} {δ : List Sl} {Φ : D → List Sl → Prop} {x : Str} {p p1 pos : Pos} (i : Nat) {xs : List D} (hs : δ[i]? = some (.own xs)) (hm : X.mg "len" = none) (q : Φ (.int (xs.length : Nat)) δ) (hN : X.N[i]? = some x := by rfl) (hv : Vis X.env.scope x := by first | exact Or.inl rfl | exact Or.inr (Or.inl rfl) | exact Or.inr (Or.inr rfl))
    (hd : (x == ("__debug__" : Str)) = false := by decide) (hcd : (x == ("__classdict__" : Str)) = false := by decide) (hg : Gl X "len" := by rfl) (hst : starEach (.Name x p :: []) X.env = (false, eval (.Name x p) X.env) :: starEach [] X.env := by rfl) (hpl : (backTo pos (starEach [.Name x p] X.env)).any (·.1) = false := by rfl) : J X (.Call (.Name "len" p1) [.Name x p] [] pos) δ Φ := fun F σ G H Q r k => by
  obtain ⟨a, vs, h1, h2, h3, h4, h5⟩ := r.slo i _ hs
  refine U_of (pe_callB call_len hg hm (by decide +kernel) pa_U (by decide) (by decide) hst hpl) (UA_of (pa_cons (pe_var hN hv hd hcd) pa_nil hst) ⟨.ref a, h1, .ref a, _, rfl, .inl ⟨vs, SqL.of h4, rfl⟩, ?_⟩)
  rw [h5.length]
  exact k _ _ δ G H r (Same.refl G) (.int _) q
theorem scPick : FnScope ["pen", "some"] ["pen", "some"] (defScope sPick) := ⟨rfl, rfl, rfl, by decide +kernel, rfl, by decide +kernel, by decide +kernel⟩
theorem ok_pick (F : FnP K "_law_pick" sPick f fd) (m : mg "_law_pick" = some (.ref f)) (T : Tx mg) (c1 : CalDraw P w K mg base) : CalPick P w K mg base := by
  refine ⟨f, fd, fnG_of F scPick (fun cdv A outer s H as Φ hr hs hl => ?_), m, F.kp, F.bindsN fun _ _ _ _ _ _ us hl => match us, hl with | [_, _], _ => rfl⟩
  obtain ⟨pa, k, d, xs, rfl, e1, l1, l2, hk, q⟩ := hs
  refine ⟨argB_ok rfl, JSs_one <| JS_ret <| J_ix ix_seq <| J_name 1 rfl <| J_cP 0 c1 hr rfl <| JA_cons <| J_callB call_len T.len <| JA_cons <| J_name 1 rfl <| JA_nil <| RC_len e1 <| JA_nil ⟨_, rfl, rfl, pa, k, _, rfl, by omega, by omega, hk, fun x h0 h1 => ⟨_, _, rfl, ?_⟩⟩⟩
  obtain ⟨j, rfl⟩ := Int.eq_ofNat_of_zero_le h0
  have hj : j < xs.length := by omega
  exact RJ_ix e1 (atI_nat (j := j) (List.getElem?_eq_getElem hj)) ⟨⟨⟨_, rfl⟩, trivial⟩, q _ (List.getElem_mem hj)⟩
theorem scOdd : FnScope ["pen", "value", "rows", "way", "at"] ["pen", "value"] (defScope sOdd) := ⟨rfl, rfl, rfl, by decide +kernel, rfl, by decide +kernel, by decide +kernel⟩
theorem ok_odd (F : FnP K "_law_odd" sOdd f fd) (m : mg "_law_odd" = some (.ref f)) (T : Tx mg) (c1 : CalDraw P w K mg base) (c2 : CalPick P w K mg base) : CalOdd P w K mg base := by
  refine ⟨f, fd, fnG_of F scOdd (fun cdv A outer s H as Φ hr hs hl => ?_), m, F.kp, F.bindsN fun _ _ _ _ _ _ us hl => match us, hl with | [_, _], _ => rfl⟩
  obtain ⟨pa, k, d, xs, rfl, e1, l1, l2, ok, hk, q⟩ := hs
  obtain ⟨ok1, _⟩ := okD_seq ok e1
  have fin : ∀ (x : D) (t : Sl) (r : List Sl), okD x = true → keepP [.pen pa (PK k), .dat d] (.pen pa (PK (k + 3)) :: t :: r) ∧ Φ x (retP [.pen pa (PK k), .dat d] (.pen pa (PK (k + 3)) :: t :: r)) := fun x t r h => ⟨⟨⟨_, rfl⟩, trivial⟩, q x h⟩
  refine ⟨argB_ok rfl, JSs_cons <| JS_parO 2 3 rfl scOdd.nd <| JO_callTy call_list_of T.list <| JA_cons <| J_name 1 rfl <| JA_nil <| RC_list e1 <| J_cP 0 c1 hr rfl <| JA_cons <| J_int <| JA_nil ⟨_, rfl, rfl, pa, k, _, rfl, by omega, by omega, by omega, fun way w0 w1 => ⟨_, _, rfl, ?_⟩⟩⟩
  refine JSs_cons <| JS_asg 4 scOdd.nd <| J_cP 0 c1 hr rfl <| JA_cons <| J_lenOwn 2 rfl T.len <| JA_nil ⟨_, rfl, rfl, pa, k + 1, _, rfl, by omega, by omega, by omega, fun at_ a0 a1 => ⟨_, _, rfl, ?_⟩⟩
  have hat : ixN xs.length at_ = some at_.toNat := by
    unfold ixN
    rw [if_pos a0, if_pos (by omega)]
  refine JSs_cons <| JS_if <| JT_cmp op_eq (by rfl) <| J_name 3 rfl <| J_int <| RJ_eqI ⟨_, rfl, fun hw => ?_, fun hw => JSs_nil ?_⟩
  · refine JSs_penW 0 rfl (pk_le (by omega : k + 1 + 1 ≤ k + 3)) <| JSs_one <| JS_ret <| J_ofO <| JO_cat <| JO_slice <| J_nameOwn 2 rfl <| JP_none <| JP_some <| J_name 4 rfl ⟨_, rfl, _, rfl, JO_slice <| J_name 2 rfl <| JP_some <| J_bin op_add <| J_name 4 rfl <| J_int <| RJ_add ⟨_, rfl, JP_none ⟨_, rfl, ?_, fin _ _ _ ?_⟩⟩⟩
    · have h1 := cut_len xs none (some at_)
      have h2 := cut_len xs (some (at_ + 1)) none
      omega
    · refine okD_list (okAll_app (okAll_cut ok1 _ _) (okAll_cut ok1 _ _)) ?_
      have h1 := cut_len xs none (some at_)
      have h2 := cut_len xs (some (at_ + 1)) none
      rw [List.length_append]
      omega
  refine JSs_cons <| JS_if <| JT_cmp op_eq (by rfl) <| J_name 3 rfl <| J_int <| RJ_eqI ⟨_, rfl, fun hw => ?_, fun hw => JSs_nil ?_⟩
  · refine JSs_one <| JS_ret <| J_ofO <| JO_catN 2 rfl <| JO_lst <| JA_cons <| J_cP 0 c2 hr rfl <| JA_cons <| J_lst <| JA_cons <| J_str <| JA_cons <| J_tup <| JA_nil ⟨rfl, JA_cons <| J_lst <| JA_nil ⟨rfl, JA_cons <| J_none <| JA_nil ⟨rfl, JA_nil ⟨_, rfl, rfl, pa, k + 1 + 1, _, moreList, rfl, rfl, by decide, by decide, by omega, fun x hx => ⟨_, _, rfl, JA_nil ⟨rfl, rfl, ?_, ?_⟩⟩⟩⟩⟩⟩
    · show xs.length + 1 ≤ 1000000
      omega
    · have hx' : okD x = true := okAll_mem more_ok hx
      have e3 : k + 1 + 1 + 1 = k + 3 := by omega
      rw [e3]
      exact fin _ _ _ (okD_list (okAll_app ok1 (okAll_of fun y hy => by
        rw [List.mem_singleton.mp hy]
        exact hx')) (by rw [List.length_append, List.length_singleton]; omega))
  refine JSs_via (fun δ1 => ∃ ys, okAll ys = true ∧ ys.length ≤ 1000 ∧ δ1 = [.pen pa (PK (k + 1 + 1 + 1)), .dat d, .own ys, .dat (.int way), .dat (.int at_)]) (JS_if <| JT_cmp op_lt (by rfl) <| J_name 3 rfl <| J_int <| RJ_lt ⟨_, rfl, fun h4 => ?_, fun h4 => ?_⟩) ?_
  · refine JSs_one <| JS_setOwn 2 <| ?_
    refine J_cP 0 c2 hr rfl ?_
    refine @JA_cons _ _ _ _ _ (J_lst ?_) rfl
    refine @JA_cons _ _ _ _ _ (J_none ?_) rfl
    refine @JA_cons _ _ _ _ _ (J_int ?_) rfl
    refine @JA_cons _ _ _ _ _ (J_str ?_) rfl
    refine @JA_cons _ _ _ _ _ (J_str ?_) rfl
    refine @JA_cons _ _ _ _ _ (J_str ?_) rfl
    refine @JA_cons _ _ _ _ _ (J_tup (JA_nil ⟨rfl, ?_⟩)) rfl
    refine @JA_cons _ _ _ _ _ (J_lst (@JA_cons _ _ _ _ _ (J_str (JA_nil ⟨rfl, ?_⟩)) rfl)) rfl
    refine @JA_cons _ _ _ _ _ (J_ofO <| JO_rep <| JO_lst (@JA_cons _ _ _ _ _ (J_str (JA_nil ⟨rfl, J_int ⟨4, rfl, by decide, by decide, by decide, ?_⟩⟩)) rfl)) rfl
    refine @JA_cons _ _ _ _ _ (J_ofO <| JO_rep <| JO_lst (@JA_cons _ _ _ _ _ (J_str (JA_nil ⟨rfl, J_int ⟨5, rfl, by decide, by decide, by decide, ?_⟩⟩)) rfl)) rfl
    refine @JA_cons _ _ _ _ _ (J_str ?_) rfl
    refine @JA_cons _ _ _ _ _ (J_str ?_) rfl
    refine @JA_cons _ _ _ _ _ (J_str ?_) rfl
    refine @JA_cons _ _ _ _ _ (J_str ?_) rfl
    refine @JA_cons _ _ _ _ _ (J_str ?_) rfl
    refine @JA_cons _ _ _ _ _ (J_dict0 ?_) rfl
    refine @JA_cons _ _ _ _ _ (J_bool ?_) rfl
    refine @JA_cons _ _ _ _ _ (J_tup (@JA_cons _ _ _ _ _ (J_str (@JA_cons _ _ _ _ _ (J_int (JA_nil ⟨rfl, ?_⟩)) rfl)) rfl)) rfl
    refine JA_nil ⟨rfl, ?_⟩
    refine JA_nil ⟨_, rfl, rfl, pa, k + 1 + 1, _, oddList, rfl, rfl, by decide, by decide, by omega, fun x hx => ⟨_, _, rfl, xs, rfl, J_name 4 rfl ⟨_, _, rfl, rfl, hat, ?_⟩⟩⟩
    have hx' : okD x = true := okAll_mem odd_ok hx
    exact ⟨_, okAll_set ok1 hx', by rw [List.length_set]; omega, rfl⟩
  · exact JSs_penW 0 rfl (pk_le (by omega : k + 1 + 1 ≤ k + 1 + 1 + 1)) <| JSs_nil ⟨xs, ok1, by omega, rfl⟩
  rintro _ ⟨ys, oky, ly, rfl⟩
  exact JSs_penW 0 rfl (pk_le (by omega : k + 1 + 1 + 1 ≤ k + 3)) <| JSs_one <| JS_ret <| J_ifExp <| JT_cmp op_eq (by rfl) <| J_name 3 rfl <| J_int <| RJ_eqI ⟨_, rfl, fun _ => J_callTy call_tuple_of T.tuple <| JA_cons <| J_nameOwn 2 rfl <| JA_nil <| RC_tuple rfl <| fin _ _ _ (okD_tup oky ly), fun _ => J_nameOwn 2 rfl <| fin _ _ _ (okD_list oky ly)⟩
end
end K04
end

section
open PySem PySem.Spec PyProof.Rows L2 DL
/-! K04I: the law. -/
namespace K04
abbrev sLaw : Stmt := top 27
def spPen : List D → (List D → Prop) → Prop := fun ds Θ => ∃ ns : List Int, ds = [.list (ns.map .int)] ∧ ∀ ns' : List Int, ns'.length ≤ 63 → Θ [.list (ns'.map .int), .int 0, .int 0]
theorem cut_ints (ns : List Int) : ∃ ns' : List Int, DL.cutD (ns.map PyData.int) none (some 63) = ns'.map .int ∧ ns'.length ≤ 63 := by
  refine ⟨(ns.drop (HT.sIx (ns.map PyData.int).length 0 none)).take (HT.sIx (ns.map PyData.int).length (ns.map PyData.int).length (some 63) - HT.sIx (ns.map PyData.int).length 0 none), ?_, ?_⟩
  · unfold DL.cutD
    rw [List.map_take, List.map_drop]
  · rw [List.length_take]
    have e : HT.sIx (ns.map PyData.int).length (ns.map PyData.int).length (some 63) = min 63 (ns.map PyData.int).length := HT.sIx_nat _ _ 63
    rw [e]
    omega
section
variable {P : Program} {w : World} {K : PySem.W.Frag} {mg : Str → Option Value} {base : Heap} {f : Addr} {fd : FuncData}
/-- a function that makes a pen -/
structure CalPen (P : Program) (w : World) (K : PySem.W.Frag) (mg : Str → Option Value) (base : Heap) : Prop where
  ex : ∃ f fd, FnO P w K mg base 1 f fd ["script"] spPen ∧ mg "_law_pen" = some (.ref f) ∧ PySem.W.keepIn K (.ref f) = true ∧ Binds K fd ["script"] []
theorem scPen : FnScope ["script"] ["script"] (defScope sPen) := ⟨rfl, rfl, rfl, by decide +kernel, rfl, by decide +kernel, by decide +kernel⟩
theorem ok_pen (F : FnP K "_law_pen" sPen f fd) (m : mg "_law_pen" = some (.ref f)) (T : Tx mg) : CalPen P w K mg base := by
  refine ⟨f, fd, fnO_of F scPen (fun cdv A outer s H ds Θ hr hs hl => ?_), m, F.kp, F.bindsN fun _ _ _ _ _ _ us hl => match us, hl with | [_], _ => rfl⟩
  obtain ⟨ns, rfl, q⟩ := hs
  obtain ⟨ns', e, hl'⟩ := cut_ints ns
  exact JO_lst <| JA_cons <| J_ofO <| JO_callTy call_list_of T.list <| JA_cons <| (J_ofO <| JO_slice <| J_name 0 rfl <| JP_none <| JP_some <| J_int ⟨_, rfl, _, rfl, JA_nil <| RC_list rfl <| JA_cons <| J_int <| JA_cons <| J_int <| JA_nil ⟨rfl, by rw [e]; exact q ns' hl'⟩⟩)
/-- a call by the keyword value -/
structure CalK (P : Program) (w : World) (K : PySem.W.Frag) (mg : Str → Option Value) (base : Heap) (x : Str) (k : Nat) (sp : Spc) : Prop where
  ex : ∃ f fd, FnG P w K mg base k f fd ["value"] sp ∧ mg x = some (.ref f) ∧ PySem.W.keepIn K (.ref f) = true ∧ BindK K fd ["value"] ["value"] (fun l => l)
theorem bindK_of {x qual : Str} {params : Arguments} {body : List Stmt} {scope : Scope} {kws : List (Str × V)} (F : FunD K x qual params body scope [] kws f fd)
    (h : ∀ (kV doc pm : Value) (an : Option Addr) (cdv ct : Value) (ws : List Value), ws.length = 1 → bindArgs (PySem.W.fnOf x qual params body scope .none kV doc pm an cdv ct) ⟨[], (["value"] : List Str).zip ws⟩ = pure ((["value"] : List Str).zip ws)) : BindK K fd ["value"] ["value"] (fun l => l) := by
  refine ⟨fun s ws _ hl => ?_, fun h _ => h, fun h _ => h, fun h => h⟩
  obtain ⟨oc, od, dV, kV, doc, pm, an, cdv, ct, osl, rfl, lk, hcd, hD, hK⟩ := F.ex
  rcases hD with ⟨_, rfl⟩ | ⟨e, _⟩
  · exact .of_eq (h kV doc pm an cdv ct ws hl)
  · exact absurd rfl e
theorem J_cK {X : Cx} {δ : List Sl} {Φ : D → List Sl → Prop} {pos p kpos : Pos} {x : Str} {e : Expr} {k j : Nat} {sp : Spc} (c : CalK X.prog X.w X.K X.mg X.base x k sp) (hr : GR j X.A) (h : JK X [⟨some "value", e, kpos⟩] δ fun ds δ1 => ds.length = 1 ∧ sp (ds.map .dat) fun d _ => Φ d δ1) (hkj : k ≤ j := by decide)
    (hks : (backToKw pos (keywordEach [⟨some "value", e, kpos⟩] X.env)).filterMap (·.1) = ([("value" : Str)] : List Str) := by rfl) (hall : (backToKw pos (keywordEach [⟨some "value", e, kpos⟩] X.env)).all (·.1.isSome) = true := by rfl)
    (hg : Gl X x := by rfl) (hdb : (x == ("__debug__" : Str)) = false := by decide) (hpl : ((backTo pos (starEach [] X.env)).any (·.1) || (backToKw pos (keywordEach [⟨some "value", e, kpos⟩] X.env)).any (·.1.isNone)) = false := by rfl) : J X (.Call (.Name x p) [] [⟨some "value", e, kpos⟩] pos) δ Φ := by
  obtain ⟨f, fd, F, m, kp, b⟩ := c.ex
  exact J_callK F (hr.mono hkj) m kp b h hks hall hg hdb hpl
theorem scLaw : FnScope ["script", "pen", "steps", "ends", "turn", "body", "lap", "step", "end", "whole", "some", "value", "told"] ["script"] (defScope sLaw) := ⟨rfl, rfl, rfl, by decide +kernel, rfl, by decide +kernel, by decide +kernel⟩
end
end K04
end

section
open PySem PySem.Spec PyProof.Rows L2 DL
/-! K04J: the law walked. -/
namespace K04
def stepsL : List D := [.tuple [.str "make", .str "v", .str "c", .list [.str "a", .str "b"]], .tuple [.str "call", .str "v", .str "f", .str "x", .list [.str "a"]], .list [.str "make", .str "v", .str "c", .tuple []], .list [.str "call", .str "v", .str "f", .str "x", .tuple []], .tuple [.str "make", .str "v", .str "c", .tuple [.str "a", .str "a", .str "a", .str "a"]]]
def endsL : List D := [.tuple [.str "give", .str "a"], .list [.str "tail", .str "f", .str "x", .list [.str "a", .str "b"]], .tuple [.str "tail", .str "f", .str "x", .tuple []]]
def lastL : List D := [.none, .int 5, .str "make", .dict [], .tuple [], .list [], .list [.none], .list [.int 5, .int 5]]
def seqOk (x : D) : Bool := match seqOf x with
  | some xs => decide (1 ≤ xs.length) && decide (xs.length ≤ 100) && okD x
  | none => false
theorem steps_ok : stepsL.all seqOk = true := by decide +kernel
theorem ends_ok : endsL.all seqOk = true := by decide +kernel
theorem last_ok : okAll lastL = true := by decide +kernel
theorem seqOk_of {xs : List D} {x : D} (h : xs.all seqOk = true) (hx : x ∈ xs) : ∃ ys, seqOf x = some ys ∧ 1 ≤ ys.length ∧ ys.length ≤ 100 ∧ okD x = true := by
  have q := List.all_eq_true.mp h x hx
  unfold seqOk at q
  cases e : seqOf x with
  | none => rw [e] at q; cases q
  | some ys =>
    rw [e] at q
    simp only [Bool.and_eq_true, decide_eq_true_eq] at q
    exact ⟨ys, rfl, q.1.1, q.1.2, q.2⟩
theorem b3_ok (a b c : Bool) : PyData.canLay0 (.list [.bool a, .bool b, .bool c]) = true ∧ PyData.showable (.list [.bool a, .bool b, .bool c]) = true ∧ PyData.hasDict (.list [.bool a, .bool b, .bool c]) = false ∧ PyData.depth (.list [.bool a, .bool b, .bool c]) ≤ 60 ∧ (PyData.shown (.list [.bool a, .bool b, .bool c])).length ≤ sizeLine ∧ SeqAt.shaped (.list [.bool a, .bool b, .bool c]) = true ∧ PyData.eqv (.list [.bool a, .bool b, .bool c]) (.list [.bool a, .bool b, .bool c]) = true := by
  cases a <;> cases b <;> cases c <;> decide +kernel
theorem okAll_cons {x : D} {xs : List D} (h : okD x = true) (g : okAll xs = true) : okAll (x :: xs) = true := by simp [okAll, h, g]
section
variable {P : Program} {w : World} {K : PySem.W.Frag} {mg : Str → Option Value} {base : Heap} {f : Addr} {fd : FuncData}
def spLaw : Spc := fun as Φ => ∃ ns : List Int, as = [.dat (.list (ns.map .int))] ∧ Φ (.bool true) as
abbrev CalKStep (P : Program) (w : World) (K : PySem.W.Frag) (mg : Str → Option Value) (base : Heap) : Prop := CalK P w K mg base "is_step_form" 4 (sp1 (fun d => okD d = true) fun d => .bool (stepC d))
abbrev CalKEnd (P : Program) (w : World) (K : PySem.W.Frag) (mg : Str → Option Value) (base : Heap) : Prop := CalK P w K mg base "is_end_form" 4 (sp1 (fun d => okD d = true) fun d => .bool (endC d))
abbrev CalKBody (P : Program) (w : World) (K : PySem.W.Frag) (mg : Str → Option Value) (base : Heap) : Prop := CalK P w K mg base "is_body_form" 5 (sp1 (fun d => okD d = true) fun d => .bool (bodyC d))
theorem JS_par3 {X : Cx} {δ : List Sl} {E : DE} {x y z : Str} {a b c : Expr} {px py pz pt pos : Pos} {kt k2 pt2} (i j l : Nat) (hc : X.calm = true) (hN : X.N.Nodup) (h : JA X [a, b, c] δ fun ds δ1 => ∃ d1 d2 d3, ds = [d1, d2, d3] ∧ E.nx (((δ1.set i (.dat d1)).set j (.dat d2)).set l (.dat d3)))
    (hi : X.N[i]? = some x) (hj : X.N[j]? = some y) (hl : X.N[l]? = some z) (hij : i ≠ j) (hil : i ≠ l) (hjl : j ≠ l)
    (hx : X.env.scope.names.lookup x = some .local) (hy : X.env.scope.names.lookup y = some .local) (hz : X.env.scope.names.lookup z = some .local)
    (hw : swappedStores [.Tuple [.Name x px, .Name y py, .Name z pz] kt pt] (.Tuple [a, b, c] k2 pt2) X.env = pure (some [x, y, z]))
    (hs : swapsWithSole [.Tuple [.Name x px, .Name y py, .Name z pz] kt pt] (.Tuple [a, b, c] k2 pt2) pos.line X.env = pure false) : JS X (.Assign [.Tuple [.Name x px, .Name y py, .Name z pz] kt pt] (.Tuple [a, b, c] k2 pt2) pos) δ E := fun F σ G H D r ok =>
  US_of (ps_par3 hc hN hi hj hl hij hil hjl hx hy hz pa_U hw hs) (h F σ G H _ r fun vs ds δ1 G1 H1 r1 s1 x1 q => by
    obtain ⟨d1, d2, d3, rfl, q⟩ := q
    cases x1 with
    | cons h1 x1 =>
      cases x1 with
      | cons h2 x1 =>
        cases x1 with
        | cons h3 x1 =>
          cases x1
          exact ⟨_, _, _, rfl, ok.nx _ _ G1 H1 (((r1.set h1).set h2).set h3) s1 q⟩)
theorem ok_law (F : FnP K "law" sLaw f fd) (T : Tx mg) (cp : CalPen P w K mg base) (cd : CalDraw P w K mg base) (ck : CalPick P w K mg base) (co : CalOdd P w K mg base) (c1 : CalStep P w K mg base) (c2 : CalEnd P w K mg base) (c3 : CalBody P w K mg base)
    (k1 : CalKStep P w K mg base) (k2 : CalKEnd P w K mg base) (k3 : CalKBody P w K mg base) (l1 : CalLStep P w K mg base) (l2 : CalLEnd P w K mg base) (l3 : CalLBody P w K mg base) : FnG P w K mg base 6 f fd ["script"] spLaw := by
  refine fnG_of F scLaw (fun cdv A outer s H as Φ hr hs hl => ?_)
  obtain ⟨ns, rfl, q⟩ := hs
  obtain ⟨fp, fpd, Fp, mp, kp, bp⟩ := cp.ex
  refine ⟨argB_ok rfl, ?_⟩
  refine JSs_cons ?_
  refine JS_asgO 1 scLaw.nd ?_
  refine JO_callO Fp (hr.mono (by decide)) mp kp bp ?_
  refine @JA_cons _ _ _ _ _ ?_ rfl
  refine J_name 0 rfl ?_
  refine JA_nil ⟨rfl, ns, rfl, fun ns' hn => ?_⟩
  refine @JSs_ownPen _ _ _ _ ns' 0 0 1 rfl fun pa => ?_
  refine @JSs_penW _ _ _ _ _ _ (PK 0) 1 rfl (fun a b c h => ?_) ?_
  · obtain ⟨e1, e2, e3⟩ := h
    subst e1 e2 e3
    exact ⟨hn, by decide, by decide, by decide⟩
  skip
  refine @JSs_via _ _ _ _ _ (fun δ1 => δ1 = [.dat (.list (ns.map .int)), .pen pa (PK 0), .dat (.list stepsL), .und, .und, .und, .und, .und, .und, .und, .und, .und, .und]) ?_ ?_
  · refine @JS_asg _ _ _ _ _ _ _ 2 scLaw.nd (J_lst ?_) rfl (.inr rfl) rfl (.inl rfl)
    refine @JA_cons _ _ _ _ _ (J_tup ?_) rfl
    refine @JA_cons _ _ _ _ _ (J_str ?_) rfl
    refine @JA_cons _ _ _ _ _ (J_str ?_) rfl
    refine @JA_cons _ _ _ _ _ (J_str ?_) rfl
    refine @JA_cons _ _ _ _ _ (J_lst ?_) rfl
    refine @JA_cons _ _ _ _ _ (J_str ?_) rfl
    refine @JA_cons _ _ _ _ _ (J_str ?_) rfl
    refine @JA_nil _ _ _ ⟨rfl, ?_⟩
    refine @JA_nil _ _ _ ⟨rfl, ?_⟩
    refine @JA_cons _ _ _ _ _ (J_tup ?_) rfl
    refine @JA_cons _ _ _ _ _ (J_str ?_) rfl
    refine @JA_cons _ _ _ _ _ (J_str ?_) rfl
    refine @JA_cons _ _ _ _ _ (J_str ?_) rfl
    refine @JA_cons _ _ _ _ _ (J_str ?_) rfl
    refine @JA_cons _ _ _ _ _ (J_lst ?_) rfl
    refine @JA_cons _ _ _ _ _ (J_str ?_) rfl
    refine @JA_nil _ _ _ ⟨rfl, ?_⟩
    refine @JA_nil _ _ _ ⟨rfl, ?_⟩
    refine @JA_cons _ _ _ _ _ (J_lst ?_) rfl
    refine @JA_cons _ _ _ _ _ (J_str ?_) rfl
    refine @JA_cons _ _ _ _ _ (J_str ?_) rfl
    refine @JA_cons _ _ _ _ _ (J_str ?_) rfl
    refine @JA_cons _ _ _ _ _ (J_tup ?_) rfl
    refine @JA_nil _ _ _ ⟨rfl, ?_⟩
    refine @JA_nil _ _ _ ⟨rfl, ?_⟩
    refine @JA_cons _ _ _ _ _ (J_lst ?_) rfl
    refine @JA_cons _ _ _ _ _ (J_str ?_) rfl
    refine @JA_cons _ _ _ _ _ (J_str ?_) rfl
    refine @JA_cons _ _ _ _ _ (J_str ?_) rfl
    refine @JA_cons _ _ _ _ _ (J_str ?_) rfl
    refine @JA_cons _ _ _ _ _ (J_tup ?_) rfl
    refine @JA_nil _ _ _ ⟨rfl, ?_⟩
    refine @JA_nil _ _ _ ⟨rfl, ?_⟩
    refine @JA_cons _ _ _ _ _ (J_tup ?_) rfl
    refine @JA_cons _ _ _ _ _ (J_str ?_) rfl
    refine @JA_cons _ _ _ _ _ (J_str ?_) rfl
    refine @JA_cons _ _ _ _ _ (J_str ?_) rfl
    refine @JA_cons _ _ _ _ _ (J_repT (J_tup ?_)) rfl
    refine @JA_cons _ _ _ _ _ (J_str ?_) rfl
    refine @JA_nil _ _ _ ⟨rfl, ?_⟩
    refine J_int ⟨_, _, rfl, rfl, by simp, by decide, by decide, by decide, ?_⟩
    refine @JA_nil _ _ _ ⟨rfl, ?_⟩
    refine @JA_nil _ _ _ ⟨rfl, ?_⟩
    exact rfl
  rintro _ rfl
  refine @JSs_via _ _ _ _ _ (fun δ1 => δ1 = [.dat (.list (ns.map .int)), .pen pa (PK 0), .dat (.list stepsL), .dat (.list endsL), .und, .und, .und, .und, .und, .und, .und, .und, .und]) ?_ ?_
  · refine @JS_asg _ _ _ _ _ _ _ 3 scLaw.nd (J_lst ?_) rfl (.inl rfl) rfl (.inl rfl)
    refine @JA_cons _ _ _ _ _ (J_tup ?_) rfl
    refine @JA_cons _ _ _ _ _ (J_str ?_) rfl
    refine @JA_cons _ _ _ _ _ (J_str ?_) rfl
    refine @JA_nil _ _ _ ⟨rfl, ?_⟩
    refine @JA_cons _ _ _ _ _ (J_lst ?_) rfl
    refine @JA_cons _ _ _ _ _ (J_str ?_) rfl
    refine @JA_cons _ _ _ _ _ (J_str ?_) rfl
    refine @JA_cons _ _ _ _ _ (J_str ?_) rfl
    refine @JA_cons _ _ _ _ _ (J_lst ?_) rfl
    refine @JA_cons _ _ _ _ _ (J_str ?_) rfl
    refine @JA_cons _ _ _ _ _ (J_str ?_) rfl
    refine @JA_nil _ _ _ ⟨rfl, ?_⟩
    refine @JA_nil _ _ _ ⟨rfl, ?_⟩
    refine @JA_cons _ _ _ _ _ (J_tup ?_) rfl
    refine @JA_cons _ _ _ _ _ (J_str ?_) rfl
    refine @JA_cons _ _ _ _ _ (J_str ?_) rfl
    refine @JA_cons _ _ _ _ _ (J_str ?_) rfl
    refine @JA_cons _ _ _ _ _ (J_tup ?_) rfl
    refine @JA_nil _ _ _ ⟨rfl, ?_⟩
    refine @JA_nil _ _ _ ⟨rfl, ?_⟩
    refine @JA_nil _ _ _ ⟨rfl, ?_⟩
    exact rfl
  rintro _ rfl
  refine @JSs_cons _ _ _ _ _ ?_
  refine @JS_for _ _ _ _ _ _ _ [4] PassesOwn.never rfl ?_ (fun _ => rfl)
  refine @JI_range1 _ _ _ _ _ _ _ ?_ T.range rfl rfl
  refine J_int ⟨14, rfl, by decide, by decide, ?_⟩
  refine ⟨fun k δ => ∃ a4 a5 a6 a7 a8 a9 a10 a11 a12 : Sl, δ = [.dat (.list (ns.map .int)), .pen pa (PK (40 * (k : Nat))), .dat (.list stepsL), .dat (.list endsL), a4, a5, a6, a7, a8, a9, a10, a11, a12], ⟨_, _, _, _, _, _, _, _, _, rfl⟩, ?_, ?_⟩
  rotate_left
  · rintro _ ⟨a4, a5, a6, a7, a8, a9, a10, a11, a12, rfl⟩
    exact JSs_one <| JS_ret <| J_bool ⟨trivial, q⟩
  rintro k d _ hk ⟨a4, a5, a6, a7, a8, a9, a10, a11, a12, rfl⟩
  have hk14 : k < 14 := (List.getElem?_eq_some_iff.mp hk).1
  refine JG_name 4 scLaw.nd ?_
  have hk14' : (k : Int) < 14 := by omega
  refine @JSs_via _ _ _ _ _ (fun δ1 => ∃ (kk : Int) (u v : List D) (e : D) (b4 b6 : Sl), kk ≤ 40 * (k : Nat) + 10 ∧ okAll u = true ∧ u.length ≤ 2 ∧ okAll v = true ∧ v.length ≤ 7 ∧ okD e = true ∧ δ1 = [.dat (.list (ns.map .int)), .pen pa (PK kk), .dat (.list stepsL), .dat (.list endsL), b4, .dat (.tuple [.str "c", .list u, .list v, e]), b6, a7, a8, a9, a10, a11, a12]) ?_ ?_
  · refine @JS_asg _ _ _ _ _ _ _ 5 scLaw.nd (J_tup ?_) rfl (.inl rfl) rfl (.inl rfl)
    refine @JA_cons _ _ _ _ _ (J_str ?_) rfl
    refine @JA_cons _ _ _ _ _ (J_ofO (JO_slice (J_lst ?_))) rfl
    refine @JA_cons _ _ _ _ _ (J_str ?_) rfl
    refine @JA_cons _ _ _ _ _ (J_str ?_) rfl
    refine @JA_nil _ _ _ ⟨rfl, JP_none (JP_some ?_)⟩
    refine J_cP 1 cd hr rfl ?_
    refine @JA_cons _ _ _ _ _ (J_int ?_) rfl
    refine @JA_nil _ _ _ ⟨_, rfl, rfl, pa, _, _, rfl, by decide, by decide, by omega, fun x x0 x1 => ⟨_, _, rfl, x, rfl, _, rfl, ?_⟩⟩
    refine @JA_cons _ _ _ _ _ (J_ofO ?_) rfl
    refine JO_lc rfl scLaw.nd (blkOk_by (own := [("lap", 6)]) (N := ["script", "pen", "steps", "ends", "turn", "body", "lap", "step", "end", "whole", "some", "value", "told"]) (sc := defScope sLaw) (by decide +kernel)) ?_ (fun _ => rfl)
    refine @JI_range1 _ _ _ _ _ _ _ ?_ T.range rfl rfl
    refine J_cP 1 cd hr rfl ?_
    refine @JA_cons _ _ _ _ _ (J_int ?_) rfl
    refine @JA_nil _ _ _ ⟨_, rfl, rfl, pa, _, _, rfl, by decide, by decide, by omega, fun n n0 n1 => ⟨_, _, rfl, n, rfl, by omega, by omega, ?_⟩⟩
    refine ⟨fun j acc δ2 => okAll acc = true ∧ acc.length ≤ j ∧ ∃ kk : Int, kk ≤ 40 * (k : Nat) + 2 + (j : Nat) ∧ δ2 = [.dat (.list (ns.map .int)), .pen pa (PK kk), .dat (.list stepsL), .dat (.list endsL), .dat d, a5, .und, a7, a8, a9, a10, a11, a12], ⟨rfl, Nat.le_refl 0, _, ?_, rfl⟩, ?_, ?_⟩
    · omega
    · rintro j d' acc _ hj ⟨h1, h2, kk, hk2, rfl⟩ Y hY
      have hj' : j < (rangeD 0 n.toNat).length := (List.getElem?_eq_some_iff.mp hj).1
      have hj2 : (j : Int) < 8 := by
        unfold rangeD at hj'
        rw [List.length_map, List.length_range] at hj'
        omega
      obtain ⟨s0, H0, C0, cl, fp, rfl⟩ := hY
      refine JG_name 6 scLaw.nd ?_
      intro Y2 hY2
      obtain ⟨s2, H2, C2, cl2, fp2, rfl⟩ := hY2
      refine JTs_nil ⟨fun _ Y3 hY3 => ?_, nofun⟩
      obtain ⟨s3, H3, C3, cl3, fp3, rfl⟩ := hY3
      refine J_cP 1 ck hr rfl ?_
      refine @JA_cons _ _ _ _ _ (J_name 2 rfl ?_) rfl
      refine @JA_nil _ _ _ ⟨_, rfl, rfl, pa, kk, _, stepsL, rfl, rfl, by decide, by decide, by omega, fun x hx => ⟨_, _, rfl, ?_⟩⟩
      obtain ⟨ys, y1, y2, y3, y4⟩ := seqOk_of steps_ok hx
      exact ⟨okAll_app h1 (okAll_cons y4 rfl), by rw [List.length_append, List.length_singleton]; omega, kk + 1, by omega, rfl⟩
    · rintro acc _ ⟨h1, h2, kk, hk2, rfl⟩
      have hn7 : (rangeD 0 n.toNat).length ≤ 7 := by
        unfold rangeD
        rw [List.length_map, List.length_range]
        omega
      refine @JA_cons _ _ _ _ _ ?_ rfl
      refine J_cP 1 ck hr rfl ?_
      refine @JA_cons _ _ _ _ _ (J_name 3 rfl ?_) rfl
      refine @JA_nil _ _ _ ⟨_, rfl, rfl, pa, kk, _, endsL, rfl, rfl, by decide, by decide, by omega, fun e he => ⟨_, _, rfl, ?_⟩⟩
      obtain ⟨ys, y1, y2, y3, y4⟩ := seqOk_of ends_ok he
      refine @JA_nil _ _ _ ⟨rfl, kk + 1, _, acc, e, _, _, by omega, okAll_cut (by decide +kernel) _ _, Nat.le_trans (cut_len _ _ _) (by decide), h1, by omega, y4, rfl⟩
  rintro _ ⟨kk, u, v, e, b4, b6, hkk, hu, lu, hv, lv, he, rfl⟩
  have obd : okD (.tuple [.str "c", .list u, .list v, e]) = true := okD_tup (okAll_cons (by decide +kernel) (okAll_cons (okD_list hu (by omega)) (okAll_cons (okD_list hv (by omega)) (okAll_cons he rfl)))) (by simp)
  refine @JSs_via _ _ _ _ _ (fun δ1 => ∃ (kk : Int) (s1 s2 s3 : D), kk ≤ 40 * (k : Nat) + 21 ∧ okD s1 = true ∧ okD s2 = true ∧ okD s3 = true ∧ δ1 = [.dat (.list (ns.map .int)), .pen pa (PK kk), .dat (.list stepsL), .dat (.list endsL), b4, .dat (.tuple [.str "c", .list u, .list v, e]), b6, .dat s1, .dat s2, .dat s3, a10, a11, a12]) ?_ ?_
  · refine JS_par3 7 8 9 rfl scLaw.nd ?_ rfl rfl rfl (by decide) (by decide) (by decide) rfl rfl rfl rfl rfl
    refine @JA_cons _ _ _ _ _ ?_ rfl
    refine J_cP 1 co hr rfl ?_
    refine @JA_cons _ _ _ _ _ ?_ rfl
    refine J_cP 1 ck hr rfl ?_
    refine @JA_cons _ _ _ _ _ (J_name 2 rfl ?_) rfl
    refine @JA_nil _ _ _ ⟨_, rfl, rfl, pa, _, _, stepsL, rfl, rfl, by decide, by decide, by omega, fun xs1 hx => ⟨_, _, rfl, ?_⟩⟩
    obtain ⟨ys, y1, y2, y3, y4⟩ := seqOk_of steps_ok hx
    refine @JA_nil _ _ _ ⟨_, rfl, rfl, pa, _, _, ys, rfl, y1, y2, y3, y4, by omega, fun s1 os1 => ⟨_, _, rfl, ?_⟩⟩
    refine @JA_cons _ _ _ _ _ ?_ rfl
    refine J_cP 1 co hr rfl ?_
    refine @JA_cons _ _ _ _ _ ?_ rfl
    refine J_cP 1 ck hr rfl ?_
    refine @JA_cons _ _ _ _ _ (J_name 3 rfl ?_) rfl
    refine @JA_nil _ _ _ ⟨_, rfl, rfl, pa, _, _, endsL, rfl, rfl, by decide, by decide, by omega, fun xs2 hx => ⟨_, _, rfl, ?_⟩⟩
    obtain ⟨ys, y1, y2, y3, y4⟩ := seqOk_of ends_ok hx
    refine @JA_nil _ _ _ ⟨_, rfl, rfl, pa, _, _, ys, rfl, y1, y2, y3, y4, by omega, fun s2 os2 => ⟨_, _, rfl, ?_⟩⟩
    refine @JA_cons _ _ _ _ _ ?_ rfl
    refine J_cP 1 co hr rfl ?_
    refine @JA_cons _ _ _ _ _ (J_name 5 rfl ?_) rfl
    refine @JA_nil _ _ _ ⟨_, rfl, rfl, pa, _, _, _, rfl, rfl, by simp, by simp, obd, by omega, fun s3 os3 => ⟨_, _, rfl, ?_⟩⟩
    refine @JA_nil _ _ _ ⟨s1, s2, s3, rfl, _, s1, s2, s3, ?_, os1, os2, os3, rfl⟩
    omega
  rintro _ ⟨kk1, s1, s2, s3, hkk1, os1, os2, os3, rfl⟩
  refine @JSs_via _ _ _ _ _ (fun δ1 => ∃ (kk : Int) (vs : List D), kk ≤ 40 * (k : Nat) + 22 ∧ okAll vs = true ∧ vs.length ≤ 1000 ∧ δ1 = [.dat (.list (ns.map .int)), .pen pa (PK kk), .dat (.list stepsL), .dat (.list endsL), b4, .dat (.tuple [.str "c", .list u, .list v, e]), b6, .dat s1, .dat s2, .dat s3, .dat (.list vs), a11, a12]) ?_ ?_
  · refine @JS_asg _ _ _ _ _ _ _ 10 scLaw.nd (J_lst ?_) rfl (.inl rfl) rfl (.inl rfl)
    refine @JA_cons _ _ _ _ _ (J_name 7 rfl ?_) rfl
    refine @JA_cons _ _ _ _ _ (J_name 8 rfl ?_) rfl
    refine @JA_cons _ _ _ _ _ (J_name 9 rfl ?_) rfl
    refine @JA_cons _ _ _ _ _ (J_name 5 rfl ?_) rfl
    refine @JA_cons _ _ _ _ _ (J_tup ?_) rfl
    refine @JA_cons _ _ _ _ _ (J_ix ix_seq (J_name 5 rfl (J_int (RJ_ix rfl (at0 rfl) ?_)))) rfl
    refine @JA_cons _ _ _ _ _ (J_ix ix_seq (J_name 5 rfl (J_int (RJ_ix rfl (at1 rfl) ?_)))) rfl
    refine @JA_cons _ _ _ _ _ (J_ofO (JO_cat (JO_slice (J_ix ix_seq (J_name 5 rfl (J_int (RJ_ix rfl (at2 rfl) (JP_none (JP_some (J_int ⟨_, rfl, _, rfl, ?_⟩)))))))))) rfl
    refine JO_lst ?_
    refine @JA_cons _ _ _ _ _ (J_name 7 rfl ?_) rfl
    refine @JA_nil _ _ _ ⟨rfl, Nat.le_trans (Nat.add_le_add_right (cut_len _ _ _) 1) (by omega), ?_⟩
    refine @JA_cons _ _ _ _ _ (J_ix ix_seq (J_name 5 rfl (J_int (RJ_ix rfl (at3 rfl) ?_)))) rfl
    refine @JA_nil _ _ _ ⟨rfl, ?_⟩
    refine @JA_cons _ _ _ _ _ (J_tup ?_) rfl
    refine @JA_cons _ _ _ _ _ (J_ix ix_seq (J_name 5 rfl (J_int (RJ_ix rfl (at0 rfl) ?_)))) rfl
    refine @JA_cons _ _ _ _ _ (J_ix ix_seq (J_name 5 rfl (J_int (RJ_ix rfl (at1 rfl) ?_)))) rfl
    refine @JA_cons _ _ _ _ _ (J_ix ix_seq (J_name 5 rfl (J_int (RJ_ix rfl (at2 rfl) ?_)))) rfl
    refine @JA_cons _ _ _ _ _ (J_name 8 rfl ?_) rfl
    refine @JA_nil _ _ _ ⟨rfl, ?_⟩
    refine @JA_cons _ _ _ _ _ ?_ rfl
    refine J_cP 1 ck hr rfl ?_
    refine @JA_cons _ _ _ _ _ (J_lst ?_) rfl
    refine @JA_cons _ _ _ _ _ (J_none ?_) rfl
    refine @JA_cons _ _ _ _ _ (J_int ?_) rfl
    refine @JA_cons _ _ _ _ _ (J_str ?_) rfl
    refine @JA_cons _ _ _ _ _ (J_dict0 ?_) rfl
    refine @JA_cons _ _ _ _ _ (J_tup ?_) rfl
    refine @JA_nil _ _ _ ⟨rfl, ?_⟩
    refine @JA_cons _ _ _ _ _ (J_lst ?_) rfl
    refine @JA_nil _ _ _ ⟨rfl, ?_⟩
    refine @JA_cons _ _ _ _ _ (J_lst ?_) rfl
    refine @JA_cons _ _ _ _ _ (J_none ?_) rfl
    refine @JA_nil _ _ _ ⟨rfl, ?_⟩
    refine @JA_cons _ _ _ _ _ (J_lst ?_) rfl
    refine @JA_cons _ _ _ _ _ (J_int ?_) rfl
    refine @JA_cons _ _ _ _ _ (J_int ?_) rfl
    refine @JA_nil _ _ _ ⟨rfl, ?_⟩
    refine @JA_nil _ _ _ ⟨rfl, ?_⟩
    refine @JA_nil _ _ _ ⟨_, rfl, rfl, pa, _, _, lastL, rfl, rfl, by decide, by decide, by omega, fun x hx => ⟨_, _, rfl, ?_⟩⟩
    have hx' := okAll_mem last_ok hx
    have oc : okD (.str "c") = true := by decide +kernel
    have ou := okD_list hu (by omega)
    have ov := okD_list hv (by omega)
    refine @JA_nil _ _ _ ⟨rfl, kk1 + 1, _, by omega, ?_, ?_, rfl⟩
    · refine okAll_cons os1 (okAll_cons os2 (okAll_cons os3 (okAll_cons obd (okAll_cons ?_ (okAll_cons ?_ (okAll_cons hx' rfl))))))
      · refine okD_tup (okAll_cons oc (okAll_cons ou (okAll_cons (okD_list (okAll_app (okAll_cut hv _ _) (okAll_cons os1 rfl)) ?_) (okAll_cons he rfl)))) (by simp)
        rw [List.length_append]
        exact Nat.le_trans (Nat.add_le_add_right (cut_len _ _ _) 1) (by omega)
      · exact okD_tup (okAll_cons oc (okAll_cons ou (okAll_cons ov (okAll_cons os2 rfl)))) (by simp)
    · simp
  rintro _ ⟨kk2, vs, hkk2, hvs, lvs, rfl⟩
  refine @JSs_via _ _ _ _ _ (fun δ1 => ∃ b11 b12 : Sl, δ1 = [.dat (.list (ns.map .int)), .pen pa (PK kk2), .dat (.list stepsL), .dat (.list endsL), b4, .dat (.tuple [.str "c", .list u, .list v, e]), b6, .dat s1, .dat s2, .dat s3, .dat (.list vs), b11, b12]) ?_ ?_
  · refine @JS_for _ _ _ _ _ _ _ [11] PassesOwn.never rfl ?_ (fun _ => rfl)
    refine JI_any ?_
    refine J_name 10 rfl ⟨vs, .inl rfl, fun j δ => ∃ b11 b12 : Sl, δ = [.dat (.list (ns.map .int)), .pen pa (PK kk2), .dat (.list stepsL), .dat (.list endsL), b4, .dat (.tuple [.str "c", .list u, .list v, e]), b6, .dat s1, .dat s2, .dat s3, .dat (.list vs), b11, b12], ⟨_, _, rfl⟩, ?_, ?_⟩
    rotate_left
    · rintro _ ⟨b11, b12, rfl⟩
      exact ⟨_, _, rfl⟩
    rintro j val _ hj ⟨b11, b12, rfl⟩
    have hval : okD val = true := okAll_mem hvs (List.mem_of_getElem? hj)
    refine JG_name 11 scLaw.nd ?_
    refine @JSs_via _ _ _ _ _ (fun δ1 => δ1 = [.dat (.list (ns.map .int)), .pen pa (PK kk2), .dat (.list stepsL), .dat (.list endsL), b4, .dat (.tuple [.str "c", .list u, .list v, e]), b6, .dat s1, .dat s2, .dat s3, .dat (.list vs), .dat val, .dat (.list [.bool (stepC val), .bool (endC val), .bool (bodyC val)])]) ?_ ?_
    · refine @JS_asg _ _ _ _ _ _ _ 12 scLaw.nd (J_lst ?_) rfl (.inl rfl) rfl (.inl rfl)
      refine @JA_cons _ _ _ _ _ ?_ rfl
      refine J_c c1 hr ?_
      refine @JA_cons _ _ _ _ _ (J_name 11 rfl ?_) rfl
      refine @JA_nil _ _ _ ⟨rfl, _, rfl, hval, ?_⟩
      refine @JA_cons _ _ _ _ _ ?_ rfl
      refine J_c c2 hr ?_
      refine @JA_cons _ _ _ _ _ (J_name 11 rfl ?_) rfl
      refine @JA_nil _ _ _ ⟨rfl, _, rfl, hval, ?_⟩
      refine @JA_cons _ _ _ _ _ ?_ rfl
      refine J_c c3 hr ?_
      refine @JA_cons _ _ _ _ _ (J_name 11 rfl ?_) rfl
      refine @JA_nil _ _ _ ⟨rfl, _, rfl, hval, ?_⟩
      exact @JA_nil _ _ _ ⟨rfl, rfl⟩
    rintro _ rfl
    obtain ⟨f1, f2, f3, f4, f5, f6, f7⟩ := b3_ok (stepC val) (endC val) (bodyC val)
    refine @JSs_cons _ _ _ _ _ ?_
    refine JS_if ?_
    refine JT_w ?_
    refine JW_or ?_
    refine JT_cmp op_ne (by rfl) ?_
    refine J_callB (call_reprD hr.gd hr.room.units) T.repr ?_
    refine @JA_cons _ _ _ _ _ (J_name 12 rfl ?_) rfl
    refine @JA_nil _ _ _ (RC_repr f1 f2 f3 f4 f5 ?_)
    refine J_callB (call_reprD hr.gd hr.room.units) T.repr ?_
    refine @JA_cons _ _ _ _ _ (J_lst ?_) rfl
    refine @JA_cons _ _ _ _ _ ?_ rfl
    refine J_c l1 hr ?_
    refine @JA_cons _ _ _ _ _ (J_name 11 rfl ?_) rfl
    refine @JA_nil _ _ _ ⟨rfl, _, rfl, hval, ?_⟩
    refine @JA_cons _ _ _ _ _ ?_ rfl
    refine J_c l2 hr ?_
    refine @JA_cons _ _ _ _ _ (J_name 11 rfl ?_) rfl
    refine @JA_nil _ _ _ ⟨rfl, _, rfl, hval, ?_⟩
    refine @JA_cons _ _ _ _ _ ?_ rfl
    refine J_c l3 hr ?_
    refine @JA_cons _ _ _ _ _ (J_name 11 rfl ?_) rfl
    refine @JA_nil _ _ _ ⟨rfl, _, rfl, hval, ?_⟩
    refine @JA_nil _ _ _ ⟨rfl, ?_⟩
    refine @JA_nil _ _ _ (RC_repr f1 f2 f3 f4 f5 ?_)
    refine RJ_neS ⟨_, rfl, fun h => ?_, fun h => ?_⟩
    · simp at h
    refine JW_or1 ?_
    refine JT_cmp (op_neD hr.room.units) (by rfl) ?_
    refine J_lst ?_
    refine @JA_cons _ _ _ _ _ ?_ rfl
    refine J_cK k1 hr ?_
    refine JK_cons (J_name 11 rfl (JK_nil ⟨rfl, _, rfl, hval, ?_⟩))
    refine @JA_cons _ _ _ _ _ ?_ rfl
    refine J_cK k2 hr ?_
    refine JK_cons (J_name 11 rfl (JK_nil ⟨rfl, _, rfl, hval, ?_⟩))
    refine @JA_cons _ _ _ _ _ ?_ rfl
    refine J_cK k3 hr ?_
    refine JK_cons (J_name 11 rfl (JK_nil ⟨rfl, _, rfl, hval, ?_⟩))
    refine @JA_nil _ _ _ ⟨rfl, J_name 12 rfl (RJ_neD f6 f6 ⟨_, rfl, fun h => ?_, fun h => ?_⟩)⟩
    · rw [f7] at h
      cases h
    · exact JSs_nil (JSs_nil ⟨_, _, rfl⟩)
  rintro _ ⟨b11, b12, rfl⟩
  refine @JSs_penW _ _ _ _ _ _ (PK (40 * ((k + 1 : Nat) : Int))) 1 rfl (pk_le (by omega)) ?_
  exact JSs_nil ⟨_, _, _, _, _, _, _, _, _, rfl⟩
end
end K04
end

section
/-! K04Z: the head of k04. -/
namespace K04
open PySem PySem.Spec PyProof.Rows L2 DL
def d_is_listed : He.DefD := ⟨("is_listed", none), "is_listed", "is_listed", defArgs sListed, defBody sListed, defScope sListed, [], []⟩
def d_is_row : He.DefD := ⟨("is_row", none), "is_row", "is_row", defArgs sRow, defBody sRow, defScope sRow, [], []⟩
def d_is_name : He.DefD := ⟨("is_name", none), "is_name", "is_name", defArgs sName, defBody sName, defScope sName, [], []⟩
def d_are_names : He.DefD := ⟨("are_names", none), "are_names", "are_names", defArgs sNames, defBody sNames, defScope sNames, [], []⟩
def d_is_step_form : He.DefD := ⟨("is_step_form", none), "is_step_form", "is_step_form", defArgs sStep, defBody sStep, defScope sStep, [], []⟩
def d_is_end_form : He.DefD := ⟨("is_end_form", none), "is_end_form", "is_end_form", defArgs sEnd, defBody sEnd, defScope sEnd, [], []⟩
def d_is_body_form : He.DefD := ⟨("is_body_form", none), "is_body_form", "is_body_form", defArgs sBody, defBody sBody, defScope sBody, [], []⟩
def d_law_pen : He.DefD := ⟨("_law_pen", none), "_law_pen", "_law_pen", defArgs sPen, defBody sPen, defScope sPen, [], []⟩
def d_law_draw : He.DefD := ⟨("_law_draw", none), "_law_draw", "_law_draw", defArgs sDraw, defBody sDraw, defScope sDraw, [], []⟩
def d_law_pick : He.DefD := ⟨("_law_pick", none), "_law_pick", "_law_pick", defArgs sPick, defBody sPick, defScope sPick, [], []⟩
def d_law_word : He.DefD := ⟨("_law_word", none), "_law_word", "_law_word", defArgs sLWord, defBody sLWord, defScope sLWord, [], []⟩
def d_law_words : He.DefD := ⟨("_law_words", none), "_law_words", "_law_words", defArgs sLWords, defBody sLWords, defScope sLWords, [], []⟩
def d_law_is_step : He.DefD := ⟨("_law_is_step", none), "_law_is_step", "_law_is_step", defArgs sLStep, defBody sLStep, defScope sLStep, [], []⟩
def d_law_is_end : He.DefD := ⟨("_law_is_end", none), "_law_is_end", "_law_is_end", defArgs sLEnd, defBody sLEnd, defScope sLEnd, [], []⟩
def d_law_is_body : He.DefD := ⟨("_law_is_body", none), "_law_is_body", "_law_is_body", defArgs sLBody, defBody sLBody, defScope sLBody, [], []⟩
def d_law_odd : He.DefD := ⟨("_law_odd", none), "_law_odd", "_law_odd", defArgs sOdd, defBody sOdd, defScope sOdd, [], []⟩
def d_law : He.DefD := ⟨("law", none), "law", "law", defArgs sLaw, defBody sLaw, defScope sLaw, [], []⟩
def fnL : List He.DefD := [d_is_listed, d_is_row, d_is_name, d_are_names, d_is_step_form, d_is_end_form, d_is_body_form, d_law_pen, d_law_draw, d_law_pick, d_law_word, d_law_words, d_law_is_step, d_law_is_end, d_law_is_body, d_law_odd, d_law]
def faL : List He.Fa := [.glo "is_listed", .glo "is_row", .glo "is_name", .glo "are_names", .glo "is_step_form", .glo "is_end_form", .glo "is_body_form", .glo "_law_pen", .glo "_law_draw", .glo "_law_pick", .glo "_law_word", .glo "_law_words", .glo "_law_is_step", .glo "_law_is_end", .glo "_law_is_body", .glo "_law_odd", .glo "law", .free "isinstance", .free "list", .free "tuple", .free "str", .free "len", .free "all", .free "range", .free "int", .free "abs", .free "repr", .str "LETTERS" lettersS, .int "MOST_NAME" 8, .str "MAKE" "make", .str "CALL" "call", .str "GIVE" "give", .str "TAIL" "tail", .int "MOST_STEPS" 6, .int "MOST_USED" 4]
abbrev RR : PySem.W.OpenRow := PySem.W.OpenLaw.row PySem.Challenge.rw_roomforall_k04_forms_of_steps_ends_and_b
abbrev hkL : PySem.W.Hook := He.hookD 4 faL fnL
def obL (s : PySem.W.SharedT) : He.AlD := He.obsDG 4 faL fnL (HandSHeadRun.getT s)
theorem obL_eq (s : PySem.W.SharedT) : obL s = hkL.obs s.abs := He.obsDG_eq (HandSHeadRun.getT_eq s)
theorem runL (w : World) : HandSHeadRun.RunEq RR (PySem.W.view RR.prog [27]) hkL obL 4000 ["LETTERS", "MOST_NAME", "is_listed", "is_row", "is_name", "are_names", "MAKE", "CALL", "GIVE", "TAIL", "MOST_STEPS", "MOST_USED", "is_step_form", "is_end_form", "is_body_form", "_law_pen", "_law_draw", "_law_pick", "_law_word", "_law_words", "_law_is_step", "_law_is_end", "_law_is_body", "_law_odd"] w := by
  intro os
  kernel_rfl
theorem factsL {P : Program} {w : World} {K : PySem.W.Frag} {h : Heap} {mg : Str → Option Value} {f : Addr} (X : K.In h) (G : h.Ns mainGlobals mg) (hfa : mg ("law" : Str) = some (.ref f)) (c : He.SaysD faL fnL K) :
    ∃ fd : FuncData, (∀ (s : Shared) (v : Value), BindsTo s fd ⟨[v], []⟩ [("script", v)]) ∧ ∀ base : Heap, K.In base → base.Ns mainGlobals mg → FnG P w K mg base 6 f fd ["script"] spTrue := by
  obtain ⟨fd_is_listed, F_is_listed⟩ := c.def_ 0 (d := d_is_listed) rfl
  have m_is_listed := He.glo_ok X G (c.fact 0 (f := .glo "is_listed") rfl)
  obtain ⟨fd_is_row, F_is_row⟩ := c.def_ 1 (d := d_is_row) rfl
  have m_is_row := He.glo_ok X G (c.fact 1 (f := .glo "is_row") rfl)
  obtain ⟨fd_is_name, F_is_name⟩ := c.def_ 2 (d := d_is_name) rfl
  have m_is_name := He.glo_ok X G (c.fact 2 (f := .glo "is_name") rfl)
  obtain ⟨fd_are_names, F_are_names⟩ := c.def_ 3 (d := d_are_names) rfl
  have m_are_names := He.glo_ok X G (c.fact 3 (f := .glo "are_names") rfl)
  obtain ⟨fd_is_step_form, F_is_step_form⟩ := c.def_ 4 (d := d_is_step_form) rfl
  have m_is_step_form := He.glo_ok X G (c.fact 4 (f := .glo "is_step_form") rfl)
  obtain ⟨fd_is_end_form, F_is_end_form⟩ := c.def_ 5 (d := d_is_end_form) rfl
  have m_is_end_form := He.glo_ok X G (c.fact 5 (f := .glo "is_end_form") rfl)
  obtain ⟨fd_is_body_form, F_is_body_form⟩ := c.def_ 6 (d := d_is_body_form) rfl
  have m_is_body_form := He.glo_ok X G (c.fact 6 (f := .glo "is_body_form") rfl)
  obtain ⟨fd_law_pen, F_law_pen⟩ := c.def_ 7 (d := d_law_pen) rfl
  have m_law_pen := He.glo_ok X G (c.fact 7 (f := .glo "_law_pen") rfl)
  obtain ⟨fd_law_draw, F_law_draw⟩ := c.def_ 8 (d := d_law_draw) rfl
  have m_law_draw := He.glo_ok X G (c.fact 8 (f := .glo "_law_draw") rfl)
  obtain ⟨fd_law_pick, F_law_pick⟩ := c.def_ 9 (d := d_law_pick) rfl
  have m_law_pick := He.glo_ok X G (c.fact 9 (f := .glo "_law_pick") rfl)
  obtain ⟨fd_law_word, F_law_word⟩ := c.def_ 10 (d := d_law_word) rfl
  have m_law_word := He.glo_ok X G (c.fact 10 (f := .glo "_law_word") rfl)
  obtain ⟨fd_law_words, F_law_words⟩ := c.def_ 11 (d := d_law_words) rfl
  have m_law_words := He.glo_ok X G (c.fact 11 (f := .glo "_law_words") rfl)
  obtain ⟨fd_law_is_step, F_law_is_step⟩ := c.def_ 12 (d := d_law_is_step) rfl
  have m_law_is_step := He.glo_ok X G (c.fact 12 (f := .glo "_law_is_step") rfl)
  obtain ⟨fd_law_is_end, F_law_is_end⟩ := c.def_ 13 (d := d_law_is_end) rfl
  have m_law_is_end := He.glo_ok X G (c.fact 13 (f := .glo "_law_is_end") rfl)
  obtain ⟨fd_law_is_body, F_law_is_body⟩ := c.def_ 14 (d := d_law_is_body) rfl
  have m_law_is_body := He.glo_ok X G (c.fact 14 (f := .glo "_law_is_body") rfl)
  obtain ⟨fd_law_odd, F_law_odd⟩ := c.def_ 15 (d := d_law_odd) rfl
  have m_law_odd := He.glo_ok X G (c.fact 15 (f := .glo "_law_odd") rfl)
  obtain ⟨fd_law, F_law⟩ := c.def_ 16 (d := d_law) rfl
  have m_law := He.glo_ok X G (c.fact 16 (f := .glo "law") rfl)
  have z_isinstance := He.free_ok X G (c.fact 17 (f := .free "isinstance") rfl)
  have z_list := He.free_ok X G (c.fact 18 (f := .free "list") rfl)
  have z_tuple := He.free_ok X G (c.fact 19 (f := .free "tuple") rfl)
  have z_str := He.free_ok X G (c.fact 20 (f := .free "str") rfl)
  have z_len := He.free_ok X G (c.fact 21 (f := .free "len") rfl)
  have z_all := He.free_ok X G (c.fact 22 (f := .free "all") rfl)
  have z_range := He.free_ok X G (c.fact 23 (f := .free "range") rfl)
  have z_int := He.free_ok X G (c.fact 24 (f := .free "int") rfl)
  have z_abs := He.free_ok X G (c.fact 25 (f := .free "abs") rfl)
  have z_repr := He.free_ok X G (c.fact 26 (f := .free "repr") rfl)
  have q_LETTERS := He.str_ok X G (c.fact 27 (f := .str "LETTERS" lettersS) rfl)
  have q_MOST_NAME := He.int_ok X G (c.fact 28 (f := .int "MOST_NAME" 8) rfl)
  have q_MAKE := He.str_ok X G (c.fact 29 (f := .str "MAKE" "make") rfl)
  have q_CALL := He.str_ok X G (c.fact 30 (f := .str "CALL" "call") rfl)
  have q_GIVE := He.str_ok X G (c.fact 31 (f := .str "GIVE" "give") rfl)
  have q_TAIL := He.str_ok X G (c.fact 32 (f := .str "TAIL" "tail") rfl)
  have q_MOST_STEPS := He.int_ok X G (c.fact 33 (f := .int "MOST_STEPS" 6) rfl)
  have q_MOST_USED := He.int_ok X G (c.fact 34 (f := .int "MOST_USED" 4) rfl)
  have e := hfa.symm.trans m_law
  cases e
  have T : Tx mg := ⟨z_isinstance, z_list, z_tuple, z_str, z_len, z_all, z_range, z_int, z_abs, z_repr⟩
  have C : Tc mg := ⟨q_LETTERS, q_MOST_NAME, q_MAKE, q_CALL, q_GIVE, q_TAIL, q_MOST_STEPS, q_MOST_USED⟩
  have b := FunD.bindsA (ps := ["script"]) F_law fun _ _ _ _ _ _ us hl => match us, hl with | [_], _ => rfl
  refine ⟨fd_law, fun s v => b s [v] rfl, fun base _ _ => ?_⟩
  have k1 : CalListed P w K mg base := ok_listed F_is_listed m_is_listed T
  have k2 : CalRow P w K mg base := ok_row F_is_row m_is_row T k1
  have k3 : CalName P w K mg base := ok_name F_is_name m_is_name T C
  have k4 : CalNames P w K mg base := ok_names F_are_names m_are_names T k2 k3
  have k5 : CalStep P w K mg base := ok_step F_is_step_form m_is_step_form T C k2 k4
  have k6 : CalEnd P w K mg base := ok_end F_is_end_form m_is_end_form T C k2 k4 k3
  have k7 : CalBody P w K mg base := ok_body F_is_body_form m_is_body_form T C k2 k4 k3 k5 k6
  have j5 : CalKStep P w K mg base := ⟨_, _, fn_step F_is_step_form T C k2 k4, m_is_step_form, F_is_step_form.kp, bindK_of F_is_step_form fun _ _ _ _ _ _ ws hl => match ws, hl with | [_], _ => rfl⟩
  have j6 : CalKEnd P w K mg base := ⟨_, _, fn_end F_is_end_form T C k2 k4 k3, m_is_end_form, F_is_end_form.kp, bindK_of F_is_end_form fun _ _ _ _ _ _ ws hl => match ws, hl with | [_], _ => rfl⟩
  have j7 : CalKBody P w K mg base := ⟨_, _, fn_body F_is_body_form T C k2 k4 k3 k5 k6, m_is_body_form, F_is_body_form.kp, bindK_of F_is_body_form fun _ _ _ _ _ _ ws hl => match ws, hl with | [_], _ => rfl⟩
  have p1 : CalPen P w K mg base := ok_pen F_law_pen m_law_pen T
  have p2 : CalDraw P w K mg base := ok_draw F_law_draw m_law_draw T
  have p3 : CalPick P w K mg base := ok_pick F_law_pick m_law_pick T p2
  have p4 : CalOdd P w K mg base := ok_odd F_law_odd m_law_odd T p2 p3
  have w1 : CalLWord P w K mg base := ok_lword F_law_word m_law_word T
  have w2 : CalLWords P w K mg base := ok_lwords F_law_words m_law_words T w1
  have w3 : CalLStep P w K mg base := ok_lstep F_law_is_step m_law_is_step T w1 w2
  have w4 : CalLEnd P w K mg base := ok_lend F_law_is_end m_law_is_end T w1 w2
  have w5 : CalLBody P w K mg base := ok_lbody F_law_is_body m_law_is_body T w1 w2 w3 w4
  exact ok_law F_law T p1 p2 p3 p4 k5 k6 k7 j5 j6 j7 w3 w4 w5
end K04
open PySem PySem.W PySem.Calls PyProof.Rows
theorem PySem.Challenge.cw_roomforall_k04_forms_of_steps_ends_and_b_holds : PySem.Challenge.rw_roomforall_k04_forms_of_steps_ends_and_b.Holds := by
  w_on; o_law
  refine HandSHeadRun.head_any (r := OpenLaw.row PySem.Challenge.rw_roomforall_k04_forms_of_steps_ends_and_b) (q := view (OpenLaw.row PySem.Challenge.rw_roomforall_k04_forms_of_steps_ends_and_b).prog [27]) (H := K04.hkL) (ob := K04.obL) (M := 4000) (loose := ["LETTERS", "MOST_NAME", "is_listed", "is_row", "is_name", "are_names", "MAKE", "CALL", "GIVE", "TAIL", "MOST_STEPS", "MOST_USED", "is_step_form", "is_end_form", "is_body_form", "_law_pen", "_law_draw", "_law_pick", "_law_word", "_law_words", "_law_is_step", "_law_is_end", "_law_is_body", "_law_odd"]) (d := HandSHeadRun.topDef (OpenLaw.row PySem.Challenge.rw_roomforall_k04_forms_of_steps_ends_and_b).prog 27) (kwd := [])
    K04.obL_eq (by kernel_rfl) (fun s => by kernel_rfl) K04.runL (by kernel_rfl) (by kernel_rfl) (by kernel_rfl) (by rfl) (by first | assumption | decide +kernel) (by decide +kernel) ⟨rfl, rfl, rfl, rfl, rfl, by decide +kernel⟩ ?hw ?hc
  case hw => w_witness2
  case hc =>
    refine Att.attach_call (n := 63) rfl (by kernel_rfl) fun w s0 s1 mg mb fa o pm cd doc a vs ns G Y ho hd hcd hmg hobj hints hlen hg => ?_
    obtain ⟨K, KX, c⟩ := Y
    have hm : mg ("law" : PySem.Str) = some (.ref fa) := by
      have e : (HandSHeadRun.topDef (OpenLaw.row PySem.Challenge.rw_roomforall_k04_forms_of_steps_ends_and_b).prog 27).name = ("law" : PySem.Str) := by kernel_rfl
      rw [← e]
      exact hmg
    obtain ⟨fd, hb, hF⟩ := K04.factsL (P := (PySem.Challenge.rw_roomforall_k04_forms_of_steps_ends_and_b).prog) (w := w) KX G.T.g hm c
    exact DL.law_callG KX G.T.g G.T.b G.T.builtins G.T.nolimit hg hobj hints (Nat.le_trans hlen (by decide)) ⟨rfl, by decide, by decide⟩ hF hb
end
