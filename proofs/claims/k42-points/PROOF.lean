import PyProof.Rows.All
import Wide.All
import OpenK.AllK
import Wide.FinOn
import HandS.ForMost
import HandS.Walk
import HandS.RaiseMore
import HandS.TupAny
import HandS.SortInts
import HandS.Strs
import HandS.SetFor
import KE.GoesNew
import KE.DataMinMax
import KE.SortData
import KE.KDictZip
import KE.KDictList
import PySem.Challenge.RW_wirebeats_k42_points_at_a_beat
set_option Elab.async false
set_option linter.all false
set_option maxRecDepth 100000
set_option maxHeartbeats 4000000
/-! The data layer: a def's body read over plain data (PyData), the heap out of sight. -/
namespace L3
open PySem PySem.Spec PyProof.Rows L2

/-! ### what is known, what stands, what may change -/
structure Rg where
  own : Addr → Prop
  ok : Hp → Prop
  loc : ∀ H H', (∀ b, own b → H' b = H b) → ok H → ok H'
  tr : ∀ H b, ok H → own b → H b ≠ Option.none
def Rg.none : Rg := ⟨fun _ => False, fun _ => True, fun _ _ _ _ => trivial, fun _ _ _ h => h.elim⟩
structure Wd (R : Rg) (G H : Hp) : Prop where
  ex : Same G H
  out : ∀ b, R.own b → G b = Option.none
  ok : R.ok H
structure Go (R : Rg) (G H G' H' : Hp) : Prop where
  ex : Same G G'
  wd : Wd R G' H'
  keep : ∀ b o, H b = some o → ¬ R.own b → H' b = some o
  new : ∀ b o, H b = some o → G b = Option.none → G' b = Option.none
theorem Go.refl {R : Rg} {G H : Hp} (w : Wd R G H) : Go R G H G H := ⟨Same.refl G, w, fun _ _ h _ => h, fun _ _ _ h => h⟩
theorem Go.trans {R : Rg} {G H G1 H1 G2 H2 : Hp} (a : Go R G H G1 H1) (b : Go R G1 H1 G2 H2) : Go R G H G2 H2 where
  ex := a.ex.trans b.ex
  wd := b.wd
  keep := fun c o h n => b.keep c o (a.keep c o h n) n
  new := fun c o h n => by
    by_cases hc : R.own c
    · exact b.wd.out c hc
    · exact b.new c o (a.keep c o h hc) (a.new c o h n)
/-- fresh behind is fresh ahead -/
theorem Go.back {R : Rg} {G H G' H' : Hp} (g : Go R G H G' H') (w : Wd R G H) {p : Addr} (h : H' p = Option.none) : H p = Option.none ∧ ¬ R.own p := by
  have hr : ¬ R.own p := fun z => R.tr H' p g.wd.ok z h
  refine ⟨?_, hr⟩
  cases e : H p with
  | none => rfl
  | some o =>
    rw [g.keep p o e hr] at h
    cases h
theorem Wd.fresh {R : Rg} {G H : Hp} (w : Wd R G H) {p : Addr} (h : H p = Option.none) : G p = Option.none ∧ ¬ R.own p := by
  refine ⟨?_, fun z => R.tr H p w.ok z h⟩
  cases e : G p with
  | none => rfl
  | some o =>
    rw [w.ex p o e] at h
    cases h
/-- something new is laid and known -/
theorem Go.new1 {R : Rg} {G H : Hp} (w : Wd R G H) {p : Addr} (h : H p = Option.none) (o : HO) : Go R G H (upd G p o) (upd H p o) := by
  obtain ⟨hg, hr⟩ := w.fresh h
  have ne : ∀ b, R.own b → b ≠ p := fun b hb z => hr (z ▸ hb)
  refine ⟨fun b u e => by rw [upd_ne (ne_of_none e hg)]; exact e, ⟨fun b u e => ?_, fun b hb => by rw [upd_ne (ne b hb)]; exact w.out b hb, R.loc H _ (fun b hb => upd_ne (ne b hb)) w.ok⟩, fun b u e _ => by rw [upd_ne (ne_of_none e h)]; exact e, fun b u e n => by rw [upd_ne (ne_of_none e h)]; exact n⟩
  by_cases hb : b = p
  · subst hb
    rw [upd_same] at e ⊢
    exact e
  · rw [upd_ne hb] at e ⊢
    exact w.ex b u e
/-- something new is laid, not known -/
theorem Go.lay {R : Rg} {G H : Hp} (w : Wd R G H) {p : Addr} (h : H p = Option.none) (o : HO) : Go R G H G (upd H p o) := by
  obtain ⟨hg, hr⟩ := w.fresh h
  have ne : ∀ b, R.own b → b ≠ p := fun b hb z => hr (z ▸ hb)
  exact ⟨Same.refl G, ⟨fun b u e => by rw [upd_ne (ne_of_none e hg)]; exact w.ex b u e, w.out, R.loc H _ (fun b hb => upd_ne (ne b hb)) w.ok⟩, fun b u e _ => by rw [upd_ne (ne_of_none e h)]; exact e, fun b u e n => n⟩
/-- something that is not known, not of the region and younger than (G, H) is changed -/
theorem Go.mut {R : Rg} {G H G' H' : Hp} (g : Go R G H G' H') {p : Addr} (h : H p = Option.none) (hg : G' p = Option.none) (hr : ¬ R.own p) (o : HO) : Go R G H G' (upd H' p o) := by
  have ne : ∀ b, R.own b → b ≠ p := fun b hb z => hr (z ▸ hb)
  exact ⟨g.ex, ⟨fun b u e => by rw [upd_ne (ne_of_none e hg)]; exact g.wd.ex b u e, g.wd.out, R.loc H' _ (fun b hb => upd_ne (ne b hb)) g.wd.ok⟩, fun b u e n => by rw [upd_ne (ne_of_none e h)]; exact g.keep b u e n, g.new⟩
/-- what stands is taken as known from here on -/
theorem Go.frz {R : Rg} {G H G' H' : Hp} (g : Go R G H G' H') {p : Addr} {o : HO} (h : H p = Option.none) (ho : H' p = some o) (hg : G' p = Option.none) (hr : ¬ R.own p) : Go R G H (upd G' p o) H' := by
  have ne : ∀ b, R.own b → b ≠ p := fun b hb z => hr (z ▸ hb)
  refine ⟨g.ex.trans fun b u e => by rw [upd_ne (ne_of_none e hg)]; exact e, ⟨fun b u e => ?_, fun b hb => by rw [upd_ne (ne b hb)]; exact g.wd.out b hb, g.wd.ok⟩, g.keep, fun b u e n => ?_⟩
  · by_cases hb : b = p
    · subst hb
      rw [upd_same] at e
      rw [← e]
      exact ho
    · rw [upd_ne hb] at e
      exact g.wd.ex b u e
  · rw [upd_ne (ne_of_none e h)]
    exact g.new b u e n

theorem same_t {K : PySem.W.Frag} {H H' : Hp} {a : Addr} {xs : List V} (e : Same H H') (h : SqT K H a xs) : SqT K H' a xs := by
  rcases h with (h | ⟨o, h⟩) | h
  · exact .inl (.inl (e _ _ h))
  · exact .inl (.inr ⟨o, e _ _ h⟩)
  · exact .inr h
theorem dp_mono {K : PySem.W.Frag} {G G' : Hp} (e : Same G G') {v : V} {d : PyData} (h : Dp K G v d) : Dp K G' v d :=
  Dp.rec (motive_1 := fun v d _ => Dp K G' v d) (motive_2 := fun vs ds _ => DpAll K G' vs ds) .non (fun b => .bl b) (fun i => .int i) (fun x => .str x)
    (fun s _ a => .lst (e.seq s) a) (fun s _ a => .tup (same_t e s) a) .nil (fun _ _ a b => .cons a b) h
theorem dpAll_mono {K : PySem.W.Frag} {G G' : Hp} (e : Same G G') : ∀ {vs : List V} {ds : List PyData}, DpAll K G vs ds → DpAll K G' vs ds
  | _, _, .nil => .nil
  | _, _, .cons a b => .cons (dp_mono e a) (dpAll_mono e b)
end L3
namespace L2
open PySem PySem.Spec PyProof.Rows
theorem DpAll.length {K : PySem.W.Frag} {G : Hp} : ∀ {vs : List V} {ds : List PyData}, DpAll K G vs ds → vs.length = ds.length
  | _, _, .nil => rfl
  | _, _, .cons _ b => congrArg Nat.succ b.length
theorem DpAll.get {K : PySem.W.Frag} {G : Hp} : ∀ {vs : List V} {ds : List PyData} {i : Nat} {d : PyData}, DpAll K G vs ds → ds[i]? = some d → ∃ v, vs[i]? = some v ∧ Dp K G v d
  | _, _, _, _, .nil, h => by simp at h
  | _, _, 0, _, .cons a _, h => by
    simp at h
    subst h
    exact ⟨_, rfl, a⟩
  | _, _, i + 1, d, .cons _ b, h => by
    obtain ⟨v, h1, h2⟩ := DpAll.get (i := i) b (by simpa using h)
    exact ⟨v, by simpa using h1, h2⟩
theorem DpAll.get' {K : PySem.W.Frag} {G : Hp} : ∀ {vs : List V} {ds : List PyData} {i : Nat} {v : V}, DpAll K G vs ds → vs[i]? = some v → ∃ d, ds[i]? = some d ∧ Dp K G v d
  | _, _, _, _, .nil, h => by simp at h
  | _, _, 0, _, .cons a _, h => by
    simp at h
    subst h
    exact ⟨_, rfl, a⟩
  | _, _, i + 1, d, .cons _ b, h => by
    obtain ⟨v, h1, h2⟩ := DpAll.get' (i := i) b (by simpa using h)
    exact ⟨v, by simpa using h1, h2⟩
theorem DpAll.append {K : PySem.W.Frag} {G : Hp} : ∀ {vs ws : List V} {ds es : List PyData}, DpAll K G vs ds → DpAll K G ws es → DpAll K G (vs ++ ws) (ds ++ es)
  | _, _, _, _, .nil, h => h
  | _, _, _, _, .cons a b, h => .cons a (b.append h)
theorem DpAll.take {K : PySem.W.Frag} {G : Hp} : ∀ {vs : List V} {ds : List PyData} (n : Nat), DpAll K G vs ds → DpAll K G (vs.take n) (ds.take n)
  | _, _, 0, _ => .nil
  | _, _, _ + 1, .nil => .nil
  | _, _, n + 1, .cons a b => .cons a (b.take n)
theorem DpAll.drop {K : PySem.W.Frag} {G : Hp} : ∀ {vs : List V} {ds : List PyData} (n : Nat), DpAll K G vs ds → DpAll K G (vs.drop n) (ds.drop n)
  | _, _, 0, h => h
  | _, _, _ + 1, .nil => .nil
  | _, _, n + 1, .cons _ b => b.drop n
theorem DpAll.set {K : PySem.W.Frag} {G : Hp} {v : V} {d : PyData} (r : Dp K G v d) : ∀ {vs : List V} {ds : List PyData} (i : Nat), DpAll K G vs ds → DpAll K G (vs.set i v) (ds.set i d)
  | _, _, _, .nil => .nil
  | _, _, 0, .cons _ b => .cons r b
  | _, _, i + 1, .cons a b => .cons a (DpAll.set r i b)
theorem DpAll.ints {K : PySem.W.Frag} {G : Hp} : ∀ {vs : List V} {ns : List Int}, DpAll K G vs (ns.map PyData.int) → vs = ns.map V.int
  | _, [], .nil => rfl
  | _, n :: ns, .cons a b => by
    cases a
    rw [List.map_cons, DpAll.ints b]
theorem DpAll.ofInts {K : PySem.W.Frag} {G : Hp} : ∀ (ns : List Int), DpAll K G (ns.map V.int) (ns.map PyData.int)
  | [] => .nil
  | n :: ns => .cons (.int n) (DpAll.ofInts ns)
theorem DpAll.bools {K : PySem.W.Frag} {G : Hp} : ∀ {vs : List V} {ns : List Bool}, DpAll K G vs (ns.map PyData.bool) → vs = ns.map V.bl
  | _, [], .nil => rfl
  | _, n :: ns, .cons a b => by
    cases a
    rw [List.map_cons, DpAll.bools b]

end L2
namespace L3
open PySem PySem.Spec PyProof.Rows L2
/-! ### the slots -/
/-- what a slot (or a value at hand) is: data; a list of the def's own that may still grow; such a list, seen; just this value -/
inductive Cl where
  | dat (d : PyData) | own (xs : List PyData) | see (xs : List PyData) | raw (v : V) | pt (ds : List PyData)
abbrev DSl := List (Option Cl)
structure Cn where
  K : PySem.W.Frag
  R : Rg
  G₀ : Hp
  H₀ : Hp
def ClOk (C : Cn) (G H : Hp) : V → Cl → Prop
  | v, .dat d => Dp C.K G v d
  | v, .own xs => ∃ a vs, v = .ref a ∧ H a = some (.lst vs) ∧ G a = Option.none ∧ ¬ C.R.own a ∧ C.H₀ a = Option.none ∧ DpAll C.K G vs xs
  | v, .see xs => ∃ a vs, v = .ref a ∧ H a = some (.lst vs) ∧ ¬ C.R.own a ∧ DpAll C.K G vs xs
  | v, .raw w => v = w
  | v, .pt ds => ∃ a vs o, v = .ref a ∧ G a = some (.frz o (.tup vs)) ∧ o.cls = .type "tuple" ∧ o.dict = Option.none ∧ DpAll C.K G vs ds
theorem ClOk.go {C : Cn} {G H G' H' : Hp} (g : Go C.R G H G' H') {v : V} {c : Cl} (h : ClOk C G H v c) : ClOk C G' H' v c := by
  cases c with
  | dat d => exact dp_mono g.ex h
  | own xs =>
    obtain ⟨a, vs, e, h1, h2, h3, h4, h5⟩ := h
    exact ⟨a, vs, e, g.keep a _ h1 h3, g.new a _ h1 h2, h3, h4, dpAll_mono g.ex h5⟩
  | see xs =>
    obtain ⟨a, vs, e, h1, h3, h5⟩ := h
    exact ⟨a, vs, e, g.keep a _ h1 h3, h3, dpAll_mono g.ex h5⟩
  | raw w => exact h
  | pt ds =>
    obtain ⟨a, vs, o, e, h1, h2, h3, h4⟩ := h
    exact ⟨a, vs, o, e, g.ex a _ h1, h2, h3, dpAll_mono g.ex h4⟩
structure En (C : Cn) (G H : Hp) (σ : L2.St) (δ : DSl) : Prop where
  go : Go C.R C.G₀ C.H₀ G H
  w0 : Wd C.R C.G₀ C.H₀
  len : σ.length = δ.length
  slot : ∀ (i : Nat) (c : Cl), δ[i]? = some (some c) → ∃ v, σ[i]? = some (some v) ∧ ClOk C G H v c
  nosee : ∀ (i : Nat) (xs : List PyData), δ[i]? ≠ some (some (.see xs))
  dist : ∀ (i j : Nat) (xs ys : List PyData) (a : Addr), i ≠ j → δ[i]? = some (some (.own xs)) → δ[j]? = some (some (.own ys)) → σ[i]? = some (some (.ref a)) → σ[j]? = some (some (.ref a)) → False
section
variable {C : Cn} {G H G' H' : Hp} {σ : L2.St} {δ : DSl}
theorem En.go' (e : En C G H σ δ) (g : Go C.R G H G' H') : En C G' H' σ δ :=
  ⟨e.go.trans g, e.w0, e.len, fun i c h => let ⟨v, h1, h2⟩ := e.slot i c h; ⟨v, h1, h2.go g⟩, e.nosee, e.dist⟩
theorem En.wd (e : En C G H σ δ) : Wd C.R G H := e.go.wd
/-- a value goes into a slot; an own list's must be no other slot's -/
theorem En.set (e : En C G H σ δ) {i : Nat} {v : V} {c : Cl} (h : ClOk C G H v c) (ns : ∀ xs, c ≠ .see xs) (fr : ∀ xs a, c = .own xs → v = .ref a → ∀ (j : Nat), j ≠ i → σ[j]? = some (some (.ref a)) → ∀ ys, δ[j]? ≠ some (some (.own ys))) :
    En C G H (σ.set i (some v)) (δ.set i (some c)) := by
  refine ⟨e.go, e.w0, by rw [List.length_set, List.length_set]; exact e.len, fun j c' hj => ?_, fun j xs hj => ?_, fun j k xs ys a hjk hj hk h1 h2 => ?_⟩
  · by_cases z : i = j
    · subst z
      have hl : i < δ.length := by
        rcases Nat.lt_or_ge i δ.length with q | q
        · exact q
        · rw [List.getElem?_eq_none (by rw [List.length_set]; exact q)] at hj
          cases hj
      rw [List.getElem?_set_self hl] at hj
      cases hj
      exact ⟨v, List.getElem?_set_self (by rw [e.len]; exact hl), h⟩
    · rw [List.getElem?_set_ne z] at hj
      obtain ⟨v', h1, h2⟩ := e.slot j c' hj
      exact ⟨v', by rw [List.getElem?_set_ne z]; exact h1, h2⟩
  · by_cases z : i = j
    · subst z
      have hl : i < δ.length := by
        rcases Nat.lt_or_ge i δ.length with q | q
        · exact q
        · rw [List.getElem?_eq_none (by rw [List.length_set]; exact q)] at hj
          cases hj
      rw [List.getElem?_set_self hl] at hj
      cases hj
      exact ns _ rfl
    · rw [List.getElem?_set_ne z] at hj
      exact e.nosee j xs hj
  · have lt : ∀ (m : Nat) (c' : Cl), (δ.set i (some c))[m]? = some (some c') → m < δ.length := fun m c' hm => by
      rcases Nat.lt_or_ge m δ.length with q | q
      · exact q
      · rw [List.getElem?_eq_none (by rw [List.length_set]; exact q)] at hm
        cases hm
    by_cases zj : i = j
    · subst zj
      have hl := lt i _ hj
      rw [List.getElem?_set_self hl] at hj
      rw [List.getElem?_set_self (by rw [e.len]; exact hl)] at h1
      rw [List.getElem?_set_ne hjk] at hk h2
      cases hj
      cases h1
      exact fr xs a rfl rfl k (Ne.symm hjk) h2 ys hk
    · by_cases zk : i = k
      · subst zk
        have hl := lt i _ hk
        rw [List.getElem?_set_self hl] at hk
        rw [List.getElem?_set_self (by rw [e.len]; exact hl)] at h2
        rw [List.getElem?_set_ne zj] at hj h1
        cases hk
        cases h2
        exact fr ys a rfl rfl j hjk h1 xs hj
      · rw [List.getElem?_set_ne zj] at hj h1
        rw [List.getElem?_set_ne zk] at hk h2
        exact e.dist j k xs ys a hjk hj hk h1 h2
theorem En.setD (e : En C G H σ δ) {i : Nat} {v : V} {d : PyData} (h : Dp C.K G v d) : En C G H (σ.set i (some v)) (δ.set i (some (.dat d))) :=
  e.set (c := .dat d) h (fun _ z => by cases z) (fun _ _ z => by cases z)
/-- a slot is forgotten -/
theorem En.drop (e : En C G H σ δ) (i : Nat) : En C G H (σ.set i Option.none) (δ.set i Option.none) := by
  have ne : ∀ (m : Nat) (c' : Cl), (δ.set i Option.none)[m]? = some (some c') → i ≠ m ∧ δ[m]? = some (some c') := fun m c' hm => by
    by_cases z : i = m
    · subst z
      rcases Nat.lt_or_ge i δ.length with q | q
      · rw [List.getElem?_set_self q] at hm
        cases hm
      · rw [List.getElem?_eq_none (by rw [List.length_set]; exact q)] at hm
        cases hm
    · rw [List.getElem?_set_ne z] at hm
      exact ⟨z, hm⟩
  refine ⟨e.go, e.w0, by rw [List.length_set, List.length_set]; exact e.len, fun j c' hj => ?_, fun j xs hj => e.nosee j xs (ne j _ hj).2, fun j k xs ys a hjk hj hk h1 h2 => ?_⟩
  · obtain ⟨z, hj⟩ := ne j c' hj
    obtain ⟨v', h1, h2⟩ := e.slot j c' hj
    exact ⟨v', by rw [List.getElem?_set_ne z]; exact h1, h2⟩
  · obtain ⟨zj, hj⟩ := ne j _ hj
    obtain ⟨zk, hk⟩ := ne k _ hk
    rw [List.getElem?_set_ne zj] at h1
    rw [List.getElem?_set_ne zk] at h2
    exact e.dist j k xs ys a hjk hj hk h1 h2
def wipeD (δ : DSl) : List Nat → DSl
  | [] => δ
  | v :: vs => (wipeD δ vs).set v Option.none
theorem En.wipe (e : En C G H σ δ) : ∀ vs : List Nat, En C G H (L2.wipe σ vs) (wipeD δ vs)
  | [] => e
  | v :: vs => (En.wipe e vs).drop v
/-- an own list is changed -/
theorem En.mut (e : En C G H σ δ) {i : Nat} {xs ys : List PyData} (hi : δ[i]? = some (some (.own xs))) {a : Addr} {ws : List V} (hs : σ[i]? = some (some (.ref a))) (r : DpAll C.K G ws ys) :
    En C G (upd H a (.lst ws)) σ (δ.set i (some (.own ys))) := by
  obtain ⟨v, h1, a', vs', e1, h2, h3, h4, h5, h6⟩ := e.slot i _ hi
  rw [hs] at h1
  cases h1
  cases e1
  have hl : i < δ.length := (List.getElem?_eq_some_iff.mp hi).1
  refine ⟨e.go.mut h5 h3 h4 _, e.w0, by rw [List.length_set]; exact e.len, fun j c hj => ?_, fun j zs hj => ?_, fun j k zs us b hjk hj hk q1 q2 => ?_⟩
  · by_cases z : i = j
    · subst z
      rw [List.getElem?_set_self hl] at hj
      cases hj
      exact ⟨_, hs, a, ws, rfl, upd_same, h3, h4, h5, r⟩
    · rw [List.getElem?_set_ne z] at hj
      obtain ⟨v', q1, q2⟩ := e.slot j c hj
      refine ⟨v', q1, ?_⟩
      cases c with
      | dat d => exact q2
      | own zs =>
        obtain ⟨b, us, e2, p1, p2, p3, p4, p5⟩ := q2
        have nb : b ≠ a := fun y => by
          subst e2
          subst y
          exact e.dist i j xs zs b z hi hj hs q1
        exact ⟨b, us, e2, by rw [upd_ne nb]; exact p1, p2, p3, p4, p5⟩
      | see zs => exact (e.nosee j zs hj).elim
      | raw w => exact q2
      | pt ds => exact q2
  · by_cases z : i = j
    · subst z
      rw [List.getElem?_set_self hl] at hj
      cases hj
    · rw [List.getElem?_set_ne z] at hj
      exact e.nosee j zs hj
  · by_cases zj : i = j
    · subst zj
      rw [List.getElem?_set_ne hjk] at hk
      exact e.dist i k xs us b hjk hi hk q1 q2
    · rw [List.getElem?_set_ne zj] at hj
      by_cases zk : i = k
      · subst zk
        exact e.dist j i zs xs b hjk hj hi q1 q2
      · rw [List.getElem?_set_ne zk] at hk
        exact e.dist j k zs us b hjk hj hk q1 q2
/-- an own list is known from here on -/
theorem En.frz (e : En C G H σ δ) {i : Nat} {xs : List PyData} (hi : δ[i]? = some (some (.own xs))) : ∃ G', Same G G' ∧ En C G' H σ (δ.set i (some (.dat (.list xs)))) := by
  obtain ⟨v, h1, a, vs, e1, h2, h3, h4, h5, h6⟩ := e.slot i _ hi
  subst e1
  have hl : i < δ.length := (List.getElem?_eq_some_iff.mp hi).1
  have g := e.go.frz h5 h2 h3 h4
  have s : Same G (upd G a (.lst vs)) := fun b u q => by
    rw [upd_ne (ne_of_none q h3)]
    exact q
  refine ⟨_, s, g, e.w0, by rw [List.length_set]; exact e.len, fun j c hj => ?_, fun j zs hj => ?_, fun j k zs us b hjk hj hk q1 q2 => ?_⟩
  · by_cases z : i = j
    · subst z
      rw [List.getElem?_set_self hl] at hj
      cases hj
      exact ⟨_, h1, .lst (SqL.of upd_same) (dpAll_mono s h6)⟩
    · rw [List.getElem?_set_ne z] at hj
      obtain ⟨v', q1, q2⟩ := e.slot j c hj
      refine ⟨v', q1, ?_⟩
      cases c with
      | dat d => exact dp_mono s q2
      | own zs =>
        obtain ⟨b, us, e2, p1, p2, p3, p4, p5⟩ := q2
        have nb : b ≠ a := fun y => by
          subst e2
          subst y
          exact e.dist i j xs zs b z hi hj h1 q1
        exact ⟨b, us, e2, p1, by rw [upd_ne nb]; exact p2, p3, p4, dpAll_mono s p5⟩
      | see zs => exact (e.nosee j zs hj).elim
      | raw w => exact q2
      | pt ds =>
        obtain ⟨b, us, o, e2, p1, p2, p3, p4⟩ := q2
        exact ⟨b, us, o, e2, s b _ p1, p2, p3, dpAll_mono s p4⟩
  · by_cases z : i = j
    · subst z
      rw [List.getElem?_set_self hl] at hj
      cases hj
    · rw [List.getElem?_set_ne z] at hj
      exact e.nosee j zs hj
  · by_cases zj : i = j
    · subst zj
      rw [List.getElem?_set_self hl] at hj
      cases hj
    · by_cases zk : i = k
      · subst zk
        rw [List.getElem?_set_self hl] at hk
        cases hk
      · rw [List.getElem?_set_ne zj] at hj
        rw [List.getElem?_set_ne zk] at hk
        exact e.dist j k zs us b hjk hj hk q1 q2
end

/-! ### readings over data -/
/-- a fresh own list -/
def Fr (H : Hp) (v : V) (c : Cl) : Prop := ∀ xs a, c = .own xs → v = .ref a → H a = Option.none
def EW (C : Cn) (te : TE) (δ : DSl) (Q : Cl → Prop) : Prop :=
  ∀ G H σ, En C G H σ δ → ∀ Q' : VK, (∀ v c G' H', Go C.R G H G' H' → ClOk C G' H' v c → Fr H v c → Q c → Q' v H') → te σ H Q'
def TW (C : Cn) (tt : TT) (δ : DSl) (Q : Bool → Prop) : Prop :=
  ∀ G H σ, En C G H σ δ → ∀ Q' : Bool → Hp → Prop, (∀ b G' H', Go C.R G H G' H' → Q b → Q' b H') → tt σ H Q'
def ClAll (C : Cn) (G H : Hp) : List V → List Cl → Prop
  | [], [] => True
  | v :: vs, c :: cs => ClOk C G H v c ∧ ClAll C G H vs cs
  | _, _ => False
theorem ClAll.go {C : Cn} {G H G' H' : Hp} (g : Go C.R G H G' H') : ∀ {vs : List V} {cs : List Cl}, ClAll C G H vs cs → ClAll C G' H' vs cs
  | [], [], _ => trivial
  | _ :: _, _ :: _, h => ⟨h.1.go g, ClAll.go g h.2⟩
  | [], _ :: _, h => h.elim
  | _ :: _, [], h => h.elim
theorem ClAll.length {C : Cn} {G H : Hp} : ∀ {vs : List V} {cs : List Cl}, ClAll C G H vs cs → vs.length = cs.length
  | [], [], _ => rfl
  | _ :: _, _ :: _, h => congrArg Nat.succ (ClAll.length h.2)
  | [], _ :: _, h => h.elim
  | _ :: _, [], h => h.elim
theorem ClAll.dats {C : Cn} {G H : Hp} : ∀ {vs : List V} {ds : List PyData}, ClAll C G H vs (ds.map .dat) → DpAll C.K G vs ds
  | [], [], _ => .nil
  | _ :: _, _ :: _, h => .cons h.1 (ClAll.dats h.2)
  | [], _ :: _, h => h.elim
  | _ :: _, [], h => h.elim
def AW (C : Cn) (ta : TA) (δ : DSl) (Q : List Cl → Prop) : Prop :=
  ∀ G H σ, En C G H σ δ → ∀ Q' : List V → Hp → Prop, (∀ vs cs G' H', Go C.R G H G' H' → ClAll C G' H' vs cs → Q cs → Q' vs H') → ta σ H Q'
/-- operations on values at hand -/
def RW (C : Cn) (r : R2) (x y : Cl) (Q : Cl → Prop) : Prop :=
  ∀ G H vx vy, Wd C.R G H → Go C.R C.G₀ C.H₀ G H → ClOk C G H vx x → ClOk C G H vy y → ∀ Q' : VK, (∀ v c G' H', Go C.R G H G' H' → ClOk C G' H' v c → Fr H v c → Q c → Q' v H') → r vx vy H Q'
def UW (C : Cn) (r : V → Hp → VK → Prop) (x : Cl) (Q : Cl → Prop) : Prop :=
  ∀ G H vx, Wd C.R G H → Go C.R C.G₀ C.H₀ G H → ClOk C G H vx x → ∀ Q' : VK, (∀ v c G' H', Go C.R G H G' H' → ClOk C G' H' v c → Fr H v c → Q c → Q' v H') → r vx H Q'
def CW (C : Cn) (r : List V → Hp → VK → Prop) (cs : List Cl) (Q : Cl → Prop) : Prop :=
  ∀ G H vs, Wd C.R G H → Go C.R C.G₀ C.H₀ G H → ClAll C G H vs cs → ∀ Q' : VK, (∀ v c G' H', Go C.R G H G' H' → ClOk C G' H' v c → Fr H v c → Q c → Q' v H') → r vs H Q'
/-- a list, a tuple at hand -/
def IsLs : Cl → List PyData → Prop
  | .dat d, xs => d = .list xs
  | .own ys, xs => ys = xs
  | .see ys, xs => ys = xs
  | .raw _, _ => False
  | .pt _, _ => False
theorem IsLs.sq {C : Cn} {G H : Hp} {v : V} {c : Cl} {xs : List PyData} (w : Wd C.R G H) (h : ClOk C G H v c) (i : IsLs c xs) : ∃ a vs, v = .ref a ∧ SqL C.K H a vs ∧ DpAll C.K G vs xs := by
  cases c with
  | dat d =>
    cases i
    cases h with
    | lst s a => exact ⟨_, _, rfl, w.ex.seq s, a⟩
  | own ys =>
    cases i
    obtain ⟨a, vs, e, h1, h2, h3, h4, h5⟩ := h
    exact ⟨a, vs, e, SqL.of h1, h5⟩
  | see ys =>
    cases i
    obtain ⟨a, vs, e, h1, h3, h5⟩ := h
    exact ⟨a, vs, e, SqL.of h1, h5⟩
  | raw w => exact i.elim
  | pt ds => exact i.elim
theorem fr_dat {H : Hp} {v : V} {d : PyData} : Fr H v (.dat d) := fun _ _ z => by cases z
theorem fr_raw {H : Hp} {v w : V} : Fr H v (.raw w) := fun _ _ z => by cases z
theorem fr_see {H : Hp} {v : V} {xs : List PyData} : Fr H v (.see xs) := fun _ _ z => by cases z
theorem Fr.back {R : Rg} {G H G' H' : Hp} (g : Go R G H G' H') (w : Wd R G H) {v : V} {c : Cl} (f : Fr H' v c) : Fr H v c := fun xs a h1 h2 => (g.back w (f xs a h1 h2)).1

section
variable {C : Cn} {δ : DSl} {ta tb tc te : TE} {Q : Cl → Prop}
theorem EW.mono {Q' : Cl → Prop} (h : EW C te δ Q) (k : ∀ c, Q c → Q' c) : EW C te δ Q' := fun G H σ e P p => h G H σ e P fun v c G' H' g ok f q => p v c G' H' g ok f (k c q)
theorem ew_var {i : Nat} {d : PyData} (h : δ[i]? = some (some (.dat d))) (q : Q (.dat d)) : EW C (tVar i) δ Q := fun G H σ e Q' k => by
  obtain ⟨v, h1, h2⟩ := e.slot i _ h
  exact ⟨v, h1, k v _ G H (.refl e.wd) h2 fr_dat q⟩
theorem ew_raw {i : Nat} {w : V} (h : δ[i]? = some (some (.raw w))) (q : Q (.raw w)) : EW C (tVar i) δ Q := fun G H σ e Q' k => by
  obtain ⟨v, h1, h2⟩ := e.slot i _ h
  exact ⟨v, h1, k v _ G H (.refl e.wd) h2 fr_raw q⟩
theorem fr_pt {H : Hp} {v : V} {ds : List PyData} : Fr H v (.pt ds) := fun _ _ z => by cases z
theorem pt_dat {C : Cn} {G H : Hp} {v : V} {ds : List PyData} (h : ClOk C G H v (.pt ds)) : Dp C.K G v (.tuple ds) := by
  obtain ⟨a, vs, o, e, h1, h2, h3, h4⟩ := h
  subst e
  exact .tup (.inl (.inr ⟨o, h1⟩)) h4
/-- a plain tuple in a slot: as it is | as data -/
theorem ew_pt {i : Nat} {ds : List PyData} (h : δ[i]? = some (some (.pt ds))) (q : Q (.pt ds)) : EW C (tVar i) δ Q := fun G H σ e Q' k => by
  obtain ⟨v, h1, h2⟩ := e.slot i _ h
  exact ⟨v, h1, k v _ G H (.refl e.wd) h2 fr_pt q⟩
theorem ew_ptd {i : Nat} {ds : List PyData} (h : δ[i]? = some (some (.pt ds))) (q : Q (.dat (.tuple ds))) : EW C (tVar i) δ Q := fun G H σ e Q' k => by
  obtain ⟨v, h1, h2⟩ := e.slot i _ h
  exact ⟨v, h1, k v (.dat (.tuple ds)) G H (.refl e.wd) (pt_dat h2) fr_dat q⟩
theorem ew_wk (h : EW C te δ fun c => ∃ ds, c = .pt ds ∧ Q (.dat (.tuple ds))) : EW C te δ Q := fun G H σ e Q' k =>
  h G H σ e _ fun v c G1 H1 g1 o1 _ ⟨ds, e1, q⟩ => by
    subst e1
    exact k v (.dat (.tuple ds)) G1 H1 g1 (pt_dat o1) fr_dat q
/-- a tuple display that lays a plain tuple -/
def tTupF (t : TA) : TE := fun σ H Q => t σ H fun xs H1 => xs.length ≤ sizeLine ∧ ∀ p o, o.cls = .type "tuple" → o.dict = Option.none → H1 p = Option.none → Q (.ref p) (upd H1 p (.frz o (.tup xs)))
theorem ew_tupF {t : TA} (h : AW C t δ fun cs => ∃ ds : List PyData, cs = ds.map .dat ∧ ds.length ≤ 1000 ∧ Q (.pt ds)) : EW C (tTupF t) δ Q := fun G H σ e Q' k =>
  h G H σ e _ fun vs cs G1 H1 g1 o1 ⟨ds, e1, hl, q⟩ => by
    subst e1
    have a := ClAll.dats o1
    refine ⟨by rw [a.length]; exact Nat.le_of_lt (small1000 hl), fun p o hc hd hp => ?_⟩
    have g2 := Go.new1 g1.wd hp (.frz o (.tup vs))
    exact k _ (.pt ds) _ _ (g1.trans g2) ⟨p, vs, o, rfl, upd_same, hc, hd, dpAll_mono g2.ex a⟩ fr_pt q
theorem ew_see {i : Nat} {xs : List PyData} (h : δ[i]? = some (some (.own xs))) (q : Q (.see xs)) : EW C (tVar i) δ Q := fun G H σ e Q' k => by
  obtain ⟨v, h1, a, vs, e1, h2, h3, h4, h5, h6⟩ := e.slot i _ h
  exact ⟨v, h1, k v (.see xs) G H (.refl e.wd) ⟨a, vs, e1, h2, h4, h6⟩ fr_see q⟩
theorem ew_int {n : Int} (q : Q (.dat (.int n))) : EW C (tC (.int n)) δ Q := fun G H σ e Q' k => k _ (.dat (.int n)) G H (.refl e.wd) (Dp.int n) fr_dat q
theorem ew_bl {n : Bool} (q : Q (.dat (.bool n))) : EW C (tC (.bl n)) δ Q := fun G H σ e Q' k => k _ (.dat (.bool n)) G H (.refl e.wd) (Dp.bl n) fr_dat q
theorem ew_str {n : Str} (q : Q (.dat (.str n))) : EW C (tC (.str n)) δ Q := fun G H σ e Q' k => k _ (.dat (.str n)) G H (.refl e.wd) (Dp.str n) fr_dat q
theorem ew_non (q : Q (.dat .none)) : EW C (tC .non) δ Q := fun G H σ e Q' k => k _ (.dat .none) G H (.refl e.wd) Dp.non fr_dat q
theorem ew_op {r : R2} (h : EW C ta δ fun x => EW C tb δ fun y => RW C r x y Q) : EW C (tOp r ta tb) δ Q := fun G H σ e Q' k =>
  h G H σ e _ fun x c G1 H1 g1 o1 _ h2 => h2 G1 H1 σ (e.go' g1) _ fun y c' G2 H2 g2 o2 _ h3 =>
    h3 G2 H2 x y g2.wd ((e.go.trans g1).trans g2) (o1.go g2) o2 Q' fun v c'' G3 H3 g3 o3 f3 q => k v c'' G3 H3 ((g1.trans g2).trans g3) o3 (Fr.back (g1.trans g2) e.wd f3) q
theorem ew_un {r : V → Hp → VK → Prop} (h : EW C ta δ fun x => UW C r x Q) : EW C (tUn r ta) δ Q := fun G H σ e Q' k =>
  h G H σ e _ fun x c G1 H1 g1 o1 _ h3 =>
    h3 G1 H1 x g1.wd (e.go.trans g1) o1 Q' fun v c'' G3 H3 g3 o3 f3 q => k v c'' G3 H3 (g1.trans g3) o3 (Fr.back g1 e.wd f3) q
theorem aw_nil {Q : List Cl → Prop} (q : Q []) : AW C tNil δ Q := fun G H σ e Q' k => k [] [] G H (.refl e.wd) trivial q
theorem aw_cons {t : TA} {Q : List Cl → Prop} (h : EW C te δ fun c => AW C t δ fun cs => Q (c :: cs)) : AW C (tCons te t) δ Q := fun G H σ e Q' k =>
  h G H σ e _ fun x c G1 H1 g1 o1 _ h2 => h2 G1 H1 σ (e.go' g1) _ fun vs cs G2 H2 g2 o2 q => k (x :: vs) (c :: cs) G2 H2 (g1.trans g2) ⟨o1.go g2, o2⟩ q
theorem ew_cb {r : List V → Hp → VK → Prop} {t : TA} (h : AW C t δ fun cs => CW C r cs Q) : EW C (tCB r t) δ Q := fun G H σ e Q' k =>
  h G H σ e _ fun vs cs G1 H1 g1 o1 h2 => h2 G1 H1 vs g1.wd (e.go.trans g1) o1 Q' fun v c'' G3 H3 g3 o3 f3 q => k v c'' G3 H3 (g1.trans g3) o3 (Fr.back g1 e.wd f3) q
theorem ew_tup {t : TA} (h : AW C t δ fun cs => ∃ ds : List PyData, cs = ds.map .dat ∧ ds.length ≤ 1000 ∧ Q (.dat (.tuple ds))) : EW C (tTup t) δ Q := fun G H σ e Q' k =>
  h G H σ e _ fun vs cs G1 H1 g1 o1 ⟨ds, e1, hl, q⟩ => by
    subst e1
    have a := ClAll.dats o1
    refine ⟨by rw [a.length]; exact Nat.le_of_lt (small1000 hl), fun p hp => ?_⟩
    have g2 := Go.new1 g1.wd hp (.tup vs)
    exact k _ (.dat (.tuple ds)) _ _ (g1.trans g2) (Dp.tup (SqT.of upd_same) (dpAll_mono g2.ex a)) fr_dat q
/-- a list display: a list of the def's own | data -/
theorem ew_lst_own {t : TA} (h : AW C t δ fun cs => ∃ ds : List PyData, cs = ds.map .dat ∧ ds.length ≤ 1000 ∧ Q (.own ds)) : EW C (tLst t) δ Q := fun G H σ e Q' k =>
  h G H σ e _ fun vs cs G1 H1 g1 o1 ⟨ds, e1, hl, q⟩ => by
    subst e1
    have a := ClAll.dats o1
    refine ⟨by rw [a.length]; exact Nat.le_of_lt (small1000 hl), fun p hp => ?_⟩
    have g2 := Go.lay g1.wd hp (.lst vs)
    obtain ⟨hp0, hr⟩ := ((e.go.trans g1)).back e.w0 hp
    refine k _ (.own ds) _ _ (g1.trans g2) ⟨p, vs, rfl, upd_same, (g1.wd.fresh hp).1, hr, hp0, a⟩ ?_ q
    intro xs b _ e2
    cases e2
    exact (g1.back e.wd hp).1
theorem ew_lst {t : TA} (h : AW C t δ fun cs => ∃ ds : List PyData, cs = ds.map .dat ∧ ds.length ≤ 1000 ∧ Q (.dat (.list ds))) : EW C (tLst t) δ Q := fun G H σ e Q' k =>
  h G H σ e _ fun vs cs G1 H1 g1 o1 ⟨ds, e1, hl, q⟩ => by
    subst e1
    have a := ClAll.dats o1
    refine ⟨by rw [a.length]; exact Nat.le_of_lt (small1000 hl), fun p hp => ?_⟩
    have g2 := Go.new1 g1.wd hp (.lst vs)
    exact k _ (.dat (.list ds)) _ _ (g1.trans g2) (Dp.lst (SqL.of upd_same) (dpAll_mono g2.ex a)) fr_dat q
/-- a fresh own list taken as data -/
theorem ew_frz (h : EW C te δ fun c => ∃ xs, c = .own xs ∧ Q (.dat (.list xs))) : EW C te δ Q := fun G H σ e Q' k =>
  h G H σ e _ fun v c G1 H1 g1 o1 f1 ⟨xs, e1, q⟩ => by
    subst e1
    obtain ⟨a, vs, e2, h1, h2, h3, h4, h5⟩ := o1
    have s : Same G1 (upd G1 a (.lst vs)) := fun b u q => by
      rw [upd_ne (ne_of_none q h2)]
      exact q
    exact k v (.dat (.list xs)) _ _ (g1.frz (f1 xs a rfl e2) h1 h2 h3) (e2 ▸ Dp.lst (SqL.of upd_same) (dpAll_mono s h5)) fr_dat q
theorem ew_if {t : TT} (h : TW C t δ fun b => if b = true then EW C ta δ Q else EW C tb δ Q) : EW C (tIf t ta tb) δ Q := fun G H σ e Q' k =>
  h G H σ e _ fun b G1 H1 g1 h2 => by
    cases b with
    | true => exact h2 G1 H1 σ (e.go' g1) Q' fun v c G2 H2 g2 o f q => k v c G2 H2 (g1.trans g2) o (Fr.back g1 e.wd f) q
    | false => exact h2 G1 H1 σ (e.go' g1) Q' fun v c G2 H2 g2 o f q => k v c G2 H2 (g1.trans g2) o (Fr.back g1 e.wd f) q
theorem ew_andV (h : EW C ta δ fun x => ∃ b, x = .dat (.bool b) ∧ (if b = true then EW C tb δ Q else Q (.dat (.bool false)))) : EW C (tAndV ta tb) δ Q := fun G H σ e Q' k =>
  h G H σ e _ fun v c G1 H1 g1 o1 _ ⟨b, e1, h2⟩ => by
    subst e1
    cases o1
    refine ⟨b, rfl, ?_⟩
    cases b with
    | true => exact h2 G1 H1 σ (e.go' g1) Q' fun v c G2 H2 g2 o f q => k v c G2 H2 (g1.trans g2) o (Fr.back g1 e.wd f) q
    | false => exact k _ (.dat (.bool false)) G1 H1 g1 (Dp.bl false) fr_dat h2
theorem ew_orV (h : EW C ta δ fun x => ∃ b, x = .dat (.bool b) ∧ (if b = true then Q (.dat (.bool true)) else EW C tb δ Q)) : EW C (tOrV ta tb) δ Q := fun G H σ e Q' k =>
  h G H σ e _ fun v c G1 H1 g1 o1 _ ⟨b, e1, h2⟩ => by
    subst e1
    cases o1
    refine ⟨b, rfl, ?_⟩
    cases b with
    | false => exact h2 G1 H1 σ (e.go' g1) Q' fun v c G2 H2 g2 o f q => k v c G2 H2 (g1.trans g2) o (Fr.back g1 e.wd f) q
    | true => exact k _ (.dat (.bool true)) G1 H1 g1 (Dp.bl true) fr_dat h2
theorem ew_notV (h : EW C ta δ fun x => ∃ b, x = .dat (.bool b) ∧ Q (.dat (.bool (!b)))) : EW C (tNotV ta) δ Q := fun G H σ e Q' k =>
  h G H σ e _ fun v c G1 H1 g1 o1 _ ⟨b, e1, h2⟩ => by
    subst e1
    cases o1
    exact ⟨b, rfl, k _ (.dat (.bool (!b))) G1 H1 g1 (Dp.bl _) fr_dat h2⟩
theorem ew_chain {r r' : R2} (h : EW C ta δ fun x => EW C tb δ fun y => RW C r x y fun z => ∃ b, z = .dat (.bool b) ∧ (if b = true then EW C tc δ (fun u => RW C r' y u Q) else Q (.dat (.bool false)))) : EW C (tChain r r' ta tb tc) δ Q := fun G H σ e Q' k =>
  h G H σ e _ fun x c G1 H1 g1 o1 _ h2 => h2 G1 H1 σ (e.go' g1) _ fun y c' G2 H2 g2 o2 _ h3 =>
    h3 G2 H2 x y g2.wd ((e.go.trans g1).trans g2) (o1.go g2) o2 _ fun v c'' G3 H3 g3 o3 _ ⟨b, e3, h4⟩ => by
      subst e3
      cases o3
      refine ⟨b, rfl, ?_⟩
      cases b with
      | true =>
        refine h4 G3 H3 σ (((e.go' g1).go' g2).go' g3) _ fun u c4 G4 H4 g4 o4 _ h5 => ?_
        exact h5 G4 H4 y u g4.wd ((((e.go.trans g1).trans g2).trans g3).trans g4) ((o2.go g3).go g4) o4 Q' fun v c5 G5 H5 g5 o5 f5 q => k v c5 G5 H5 ((((g1.trans g2).trans g3).trans g4).trans g5) o5 (Fr.back (((g1.trans g2).trans g3).trans g4) e.wd f5) q
      | false => exact k _ (.dat (.bool false)) G3 H3 ((g1.trans g2).trans g3) (Dp.bl false) fr_dat h4
end
section
variable {C : Cn} {δ : DSl} {te : TE} {t u : TT} {Q : Bool → Prop}
theorem tw_test (h : EW C te δ fun c => ∃ b, c = .dat (.bool b) ∧ Q b) : TW C (tTest te) δ Q := fun G H σ e Q' k =>
  h G H σ e _ fun v c G1 H1 g1 o1 _ ⟨b, e1, q⟩ => by
    subst e1
    cases o1
    exact ⟨b, rfl, k b G1 H1 g1 q⟩
theorem tw_B (h : EW C te δ fun c => ∃ b, c = .dat (.bool b) ∧ Q b) : TW C (tB te) δ Q := fun G H σ e Q' k =>
  h G H σ e _ fun v c G1 H1 g1 o1 _ ⟨b, e1, q⟩ => by
    subst e1
    cases o1
    exact ⟨b, rfl, k b G1 H1 g1 q⟩
theorem tw_yes (q : Q true) : TW C tYes δ Q := fun G H σ e Q' k => k true G H (.refl e.wd) q
theorem tw_and (h : TW C t δ fun b => if b = true then TW C u δ Q else Q false) : TW C (tAnd t u) δ Q := fun G H σ e Q' k =>
  h G H σ e _ fun b G1 H1 g1 h2 => by
    cases b with
    | true => exact h2 G1 H1 σ (e.go' g1) Q' fun b G2 H2 g2 q => k b G2 H2 (g1.trans g2) q
    | false => exact k false G1 H1 g1 h2
theorem tw_or (h : TW C t δ fun b => if b = true then Q true else TW C u δ Q) : TW C (tOr t u) δ Q := fun G H σ e Q' k =>
  h G H σ e _ fun b G1 H1 g1 h2 => by
    cases b with
    | false => exact h2 G1 H1 σ (e.go' g1) Q' fun b G2 H2 g2 q => k b G2 H2 (g1.trans g2) q
    | true => exact k true G1 H1 g1 h2
theorem tw_not (h : TW C t δ fun b => Q (!b)) : TW C (tNot t) δ Q := fun G H σ e Q' k =>
  h G H σ e _ fun b G1 H1 g1 h2 => k (!b) G1 H1 g1 h2
end

/-! ### operations on data -/
section
variable {C : Cn} {Q : Cl → Prop}
theorem rw_I {P : Int → Int → Prop} {g : Int → Int → Int} {i j : Int} (hp : P i j) (q : Q (.dat (.int (g i j)))) : RW C (rI P fun i j => .int (g i j)) (.dat (.int i)) (.dat (.int j)) Q := fun G H vx vy w _ hx hy Q' k => by
  cases hx
  cases hy
  exact ⟨i, j, rfl, rfl, hp, k _ (.dat (.int _)) G H (.refl w) (Dp.int _) fr_dat q⟩
theorem rw_I0 {g : Int → Int → Int} {i j : Int} (q : Q (.dat (.int (g i j)))) : RW C (rI0 fun i j => .int (g i j)) (.dat (.int i)) (.dat (.int j)) Q := fun G H vx vy w _ hx hy Q' k => by
  cases hx
  cases hy
  exact ⟨i, j, rfl, rfl, k _ (.dat (.int _)) G H (.refl w) (Dp.int _) fr_dat q⟩
theorem rw_B0 {g : Int → Int → Bool} {i j : Int} (q : Q (.dat (.bool (g i j)))) : RW C (rI0 fun i j => .bl (g i j)) (.dat (.int i)) (.dat (.int j)) Q := fun G H vx vy w _ hx hy Q' k => by
  cases hx
  cases hy
  exact ⟨i, j, rfl, rfl, k _ (.dat (.bool _)) G H (.refl w) (Dp.bl _) fr_dat q⟩
theorem uw_I {g : Int → Int} {i : Int} (q : Q (.dat (.int (g i)))) : UW C (rU fun i => .int (g i)) (.dat (.int i)) Q := fun G H vx w _ hx Q' k => by
  cases hx
  exact ⟨i, rfl, k _ (.dat (.int _)) G H (.refl w) (Dp.int _) fr_dat q⟩
theorem rw_eqI {i j : Int} (q : Q (.dat (.bool (decide (i = j))))) : RW C rEq (.dat (.int i)) (.dat (.int j)) Q := fun G H vx vy w _ hx hy Q' k => by
  cases hx
  cases hy
  refine ⟨rfl, k _ (.dat (.bool (decide (i = j)))) G H (.refl w) ?_ fr_dat q⟩
  rw [show decide (V.int i = V.int j) = decide (i = j) by simp]
  exact Dp.bl _
theorem rw_neI {i j : Int} (q : Q (.dat (.bool (!decide (i = j))))) : RW C rNe (.dat (.int i)) (.dat (.int j)) Q := fun G H vx vy w _ hx hy Q' k => by
  cases hx
  cases hy
  refine ⟨rfl, k _ (.dat (.bool (!decide (i = j)))) G H (.refl w) ?_ fr_dat q⟩
  rw [show decide (V.int i = V.int j) = decide (i = j) by simp]
  exact Dp.bl _
theorem rw_eqS {i j : Str} (q : Q (.dat (.bool (decide (i = j))))) : RW C rEq (.dat (.str i)) (.dat (.str j)) Q := fun G H vx vy w _ hx hy Q' k => by
  cases hx
  cases hy
  refine ⟨rfl, k _ (.dat (.bool (decide (i = j)))) G H (.refl w) ?_ fr_dat q⟩
  rw [show decide (V.str i = V.str j) = decide (i = j) by simp]
  exact Dp.bl _
theorem rw_neS {i j : Str} (q : Q (.dat (.bool (!decide (i = j))))) : RW C rNe (.dat (.str i)) (.dat (.str j)) Q := fun G H vx vy w _ hx hy Q' k => by
  cases hx
  cases hy
  refine ⟨rfl, k _ (.dat (.bool (!decide (i = j)))) G H (.refl w) ?_ fr_dat q⟩
  rw [show decide (V.str i = V.str j) = decide (i = j) by simp]
  exact Dp.bl _
theorem atI_dp {K : PySem.W.Frag} {G : Hp} {vs : List V} {ds : List PyData} {i : Int} {d : PyData} (a : DpAll K G vs ds) (h : atI ds i = some d) : ∃ v, atI vs i = some v ∧ Dp K G v d := by
  unfold atI at h ⊢
  rw [a.length]
  cases e : ixN ds.length i with
  | none =>
    rw [e] at h
    cases h
  | some j =>
    rw [e] at h
    exact a.get h
theorem rw_ixL {c : Cl} {ds : List PyData} {i : Int} {d : PyData} (hc : IsLs c ds) (h : atI ds i = some d) (q : Q (.dat d)) : RW C (rIxL C.K) c (.dat (.int i)) Q := fun G H vx vy w _ hx hy Q' k => by
  obtain ⟨a, vs, rfl, s, al⟩ := hc.sq w hx
  cases hy
  obtain ⟨v, h1, h2⟩ := atI_dp al h
  exact ⟨a, vs, i, v, rfl, rfl, s, h1, k _ (.dat d) G H (.refl w) h2 fr_dat q⟩
theorem rw_ixT {ds : List PyData} {i : Int} {d : PyData} (h : atI ds i = some d) (q : Q (.dat d)) : RW C (rIxT C.K) (.dat (.tuple ds)) (.dat (.int i)) Q := fun G H vx vy w _ hx hy Q' k => by
  cases hy
  cases hx with
  | tup s al =>
    obtain ⟨v, h1, h2⟩ := atI_dp al h
    exact ⟨_, _, i, v, rfl, rfl, same_t w.ex s, h1, k _ (.dat d) G H (.refl w) h2 fr_dat q⟩
/-- == of data -/
theorem shaped_of {K : PySem.W.Frag} {G : Hp} {x : V} {d : PyData} (h : Dp K G x d) (hs : SeqAt.shaped d = true) : SeqAt.shaped d = true := hs
theorem rw_eqD {d e : PyData} (hd : SeqAt.shaped d = true) (he : SeqAt.shaped e = true) (q : Q (.dat (.bool (PyData.eqv d e)))) : RW C (rEqD C.K) (.dat d) (.dat e) Q := fun G H vx vy w _ hx hy Q' k =>
  ⟨d, e, dp_mono w.ex hx, dp_mono w.ex hy, hd, he, k _ (.dat (.bool _)) G H (.refl w) (Dp.bl _) fr_dat q⟩
theorem rw_neD {d e : PyData} (hd : SeqAt.shaped d = true) (he : SeqAt.shaped e = true) (q : Q (.dat (.bool (!PyData.eqv d e)))) : RW C (rNeD C.K) (.dat d) (.dat e) Q := fun G H vx vy w _ hx hy Q' k =>
  ⟨d, e, dp_mono w.ex hx, dp_mono w.ex hy, hd, he, k _ (.dat (.bool _)) G H (.refl w) (Dp.bl _) fr_dat q⟩
end
end L3

namespace L3
open PySem PySem.Spec PyProof.Rows L2

/-! ### targets -/
def GW (C : Cn) (g : TG) (vs : List Nat) (d : PyData) (δ : DSl) (Q : DSl → Prop) : Prop :=
  ∀ G H σ v, En C G H σ δ → Dp C.K G v d → ∀ Q' : L2.St → Hp → Prop, (∀ σ' δ', En C G H σ' δ' → (∀ k, k ∉ vs → σ'[k]? = σ[k]?) → σ'.length = σ.length → Q δ' → Q' σ' H) → g v σ H Q'
def GsW (C : Cn) (g : TGs) (vs : List Nat) (ds : List PyData) (δ : DSl) (Q : DSl → Prop) : Prop :=
  ∀ G H σ ws, En C G H σ δ → DpAll C.K G ws ds → ∀ Q' : L2.St → Hp → Prop, (∀ σ' δ', En C G H σ' δ' → (∀ k, k ∉ vs → σ'[k]? = σ[k]?) → σ'.length = σ.length → Q δ' → Q' σ' H) → g ws σ H Q'
section
variable {C : Cn} {δ : DSl} {Q : DSl → Prop} {vs : List Nat}
theorem gw_name {i : Nat} {d : PyData} (hi : i ∈ vs) (q : Q (δ.set i (some (.dat d)))) : GW C (gName i) vs d δ Q := fun G H σ v e hd Q' k =>
  k _ _ (e.setD hd) (fun j hj => List.getElem?_set_ne (fun z => hj (by rw [← z]; exact hi))) (by rw [List.length_set]) q
theorem gsw_nil (q : Q δ) : GsW C gNil vs [] δ Q := fun G H σ ws e hd Q' k => by
  cases hd
  exact ⟨rfl, k σ δ e (fun _ _ => rfl) rfl q⟩
theorem gsw_cons {g : TG} {gs : TGs} {d : PyData} {ds : List PyData} (h : GW C g vs d δ fun δ' => GsW C gs vs ds δ' Q) : GsW C (gCons g gs) vs (d :: ds) δ Q := fun G H σ ws e hd Q' k => by
  cases hd with
  | cons a b =>
    refine ⟨_, _, rfl, h G H σ _ e a _ fun σ1 δ1 e1 f1 l1 h2 => h2 G H σ1 _ e1 b _ fun σ2 δ2 e2 f2 l2 q => k σ2 δ2 e2 (fun j hj => (f2 j hj).trans (f1 j hj)) (l2.trans l1) q⟩
theorem gw_tup {gs : TGs} {n : Nat} {ds : List PyData} (hn : ds.length = n) (h : GsW C gs vs ds δ Q) : GW C (gTup C.K n gs) vs (.tuple ds) δ Q := fun G H σ v e hd Q' k => by
  cases hd with
  | tup s a => exact ⟨_, _, rfl, same_t e.wd.ex s, a.length.trans hn, h G H σ _ e a Q' k⟩
end

/-! ### what is walked -/
/-- the iterator gives the data ds, whatever comes to be known besides -/
structure Yl (C : Cn) (J : It) (G : Hp) (ds : List PyData) : Prop where
  go : ∀ G1 H1 i, Same G G1 → Wd C.R G1 H1 → i < ds.length → J.go i H1
  stop : ∀ G1 H1, Same G G1 → Wd C.R G1 H1 → J.stop ds.length H1
  yld : ∀ G1 H1 i x H2, Same G G1 → Wd C.R G1 H1 → i < ds.length → J.yld i H1 x H2 → ∃ G2 d, Go C.R G1 H1 G2 H2 ∧ ds[i]? = some d ∧ Dp C.K G2 x d
def IW (C : Cn) (wi : TI) (δ : DSl) (Q : List PyData → Prop) : Prop :=
  ∀ G H σ, En C G H σ δ → ∀ R' : It → Hp → Prop, (∀ J ds G' H', Go C.R G H G' H' → Yl C J G' ds → Q ds → R' J H') → wi σ H R'
theorem yl_list {C : Cn} {G : Hp} {a : Addr} {vs : List V} {ds : List PyData} (s : SqL C.K G a vs) (al : DpAll C.K G vs ds) : Yl C (Itl C.K a) G ds where
  go := fun G1 H1 i e w hi => ⟨vs, vs[i]'(by rw [al.length]; exact hi), (e.trans w.ex).seq s, by simp⟩
  stop := fun G1 H1 e w => ⟨vs, (e.trans w.ex).seq s, Nat.le_of_eq al.length⟩
  yld := fun G1 H1 i x H2 e w hi y => by
    obtain ⟨e1, y⟩ := y
    subst e1
    obtain ⟨d, h1, h2⟩ := al.get' (y vs ((e.trans w.ex).seq s))
    exact ⟨G1, d, .refl w, h1, dp_mono e h2⟩
theorem yl_tup {C : Cn} {G : Hp} {a : Addr} {vs : List V} {ds : List PyData} (s : SqT C.K G a vs) (al : DpAll C.K G vs ds) : Yl C (Itt C.K a) G ds where
  go := fun G1 H1 i e w hi => ⟨vs, vs[i]'(by rw [al.length]; exact hi), same_t (e.trans w.ex) s, by simp⟩
  stop := fun G1 H1 e w => ⟨vs, same_t (e.trans w.ex) s, Nat.le_of_eq al.length⟩
  yld := fun G1 H1 i x H2 e w hi y => by
    obtain ⟨e1, y⟩ := y
    subst e1
    obtain ⟨d, h1, h2⟩ := al.get' (y vs (same_t (e.trans w.ex) s))
    exact ⟨G1, d, .refl w, h1, dp_mono e h2⟩
def rngD (lo : Int) (n : Nat) : List PyData := (List.range n).map fun (i : Nat) => PyData.int (lo + (i : Int))
theorem rngD_len (lo : Int) (n : Nat) : (rngD lo n).length = n := by unfold rngD; rw [List.length_map, List.length_range]
theorem rngD_get {lo : Int} {n i : Nat} (h : i < n) : (rngD lo n)[i]? = some (.int (lo + (i : Int))) := by
  unfold rngD
  rw [List.getElem?_map, List.getElem?_range h]
  rfl
theorem yl_range {C : Cn} {G : Hp} {lo : Int} {n : Nat} : Yl C (Itr lo n) G (rngD lo n) where
  go := fun G1 H1 i e w hi => by rw [rngD_len] at hi; exact hi
  stop := fun G1 H1 e w => by rw [rngD_len]; exact Nat.le_refl n
  yld := fun G1 H1 i x H2 e w hi y => by
    rw [rngD_len] at hi
    obtain ⟨e1, e2⟩ := y
    subst e1 e2
    exact ⟨G1, _, .refl w, rngD_get hi, .int _⟩
section
variable {C : Cn} {δ : DSl} {te : TE} {Q : List PyData → Prop}
theorem iw_list (h : EW C te δ fun c => ∃ xs, c = .dat (.list xs) ∧ Q xs) : IW C (iList C.K te) δ Q := fun G H σ e R' k =>
  h G H σ e _ fun v c G1 H1 g1 o1 _ ⟨xs, e1, q⟩ => by
    subst e1
    cases o1 with
    | lst s a => exact ⟨_, rfl, ⟨_, g1.wd.ex.seq s⟩, k _ xs G1 H1 g1 (yl_list s a) q⟩
theorem iw_tup (h : EW C te δ fun c => ∃ xs, c = .dat (.tuple xs) ∧ Q xs) : IW C (iTup C.K te) δ Q := fun G H σ e R' k =>
  h G H σ e _ fun v c G1 H1 g1 o1 _ ⟨xs, e1, q⟩ => by
    subst e1
    cases o1 with
    | tup s a => exact ⟨_, rfl, ⟨_, same_t g1.wd.ex s⟩, k _ xs G1 H1 g1 (yl_tup s a) q⟩
theorem iw_rng1 {t : TA} (h : AW C t δ fun cs => ∃ n : Int, cs = [.dat (.int n)] ∧ -(2 ^ 62) ≤ n ∧ n < 2 ^ 62 ∧ Q (rngD 0 n.toNat)) : IW C (iRng1 t) δ Q := fun G H σ e R' k =>
  h G H σ e _ fun vs cs G1 H1 g1 o1 ⟨n, e1, h1, h2, q⟩ => by
    subst e1
    cases vs with
    | nil => exact o1.elim
    | cons v vs =>
      cases vs with
      | cons _ _ => exact o1.2.elim
      | nil =>
        cases (show Dp C.K G1 v (.int n) from o1.1)
        exact ⟨n, rfl, h1, h2, k _ _ G1 H1 g1 yl_range q⟩
theorem iw_rng2 {t : TA} (h : AW C t δ fun cs => ∃ m n : Int, cs = [.dat (.int m), .dat (.int n)] ∧ (-(2 ^ 62) ≤ m ∧ m < 2 ^ 62 ∧ -(2 ^ 62) ≤ n ∧ n < 2 ^ 62) ∧ Q (rngD m (n - m).toNat)) : IW C (iRng2 t) δ Q := fun G H σ e R' k =>
  h G H σ e _ fun vs cs G1 H1 g1 o1 ⟨m, n, e1, h1, q⟩ => by
    subst e1
    cases vs with
    | nil => exact o1.elim
    | cons v vs =>
      cases vs with
      | nil => exact o1.2.elim
      | cons v' vs =>
        cases vs with
        | cons _ _ => exact o1.2.2.elim
        | nil =>
          cases (show Dp C.K G1 v (.int m) from o1.1)
          cases (show Dp C.K G1 v' (.int n) from o1.2.1)
          exact ⟨m, n, rfl, h1, k _ _ G1 H1 g1 yl_range q⟩
end

/-! ### comprehensions -/
theorem wipe_get (σ : L2.St) : ∀ (vs : List Nat) (k : Nat), (L2.wipe σ vs)[k]? = if k ∈ vs ∧ k < σ.length then some Option.none else σ[k]?
  | [], k => by simp [L2.wipe]
  | v :: vs, k => by
    unfold L2.wipe
    by_cases h : v = k
    · subst h
      by_cases hl : v < σ.length
      · rw [List.getElem?_set_self (by rw [wipe_length]; exact hl), if_pos ⟨List.mem_cons_self, hl⟩]
      · rw [List.getElem?_eq_none (by rw [List.length_set, wipe_length]; omega), if_neg (fun z => hl z.2), List.getElem?_eq_none (by omega)]
    · rw [List.getElem?_set_ne h, wipe_get σ vs k]
      have : (k ∈ v :: vs) ↔ k ∈ vs := by simp [Ne.symm h]
      simp only [this]
theorem wipe_of (σ σ2 : L2.St) (vs : List Nat) (f : ∀ k, k ∉ vs → σ2[k]? = (L2.wipe σ vs)[k]?) (l : σ2.length = (L2.wipe σ vs).length) : L2.wipe σ2 vs = L2.wipe σ vs := by
  apply List.ext_getElem?
  intro k
  rw [wipe_get σ2 vs k, l, wipe_length]
  by_cases h : k ∈ vs
  · by_cases hl : k < σ.length
    · rw [if_pos ⟨h, hl⟩, wipe_get σ vs k, if_pos ⟨h, hl⟩]
    · rw [if_neg (fun z => hl z.2), List.getElem?_eq_none (by rw [l, wipe_length]; omega), List.getElem?_eq_none (by rw [wipe_length]; omega)]
  · rw [if_neg (fun z => h z.1), f k h]
section
variable {C : Cn} {δ : DSl} {te : TE} {wi : TI} {g : TG} {tt : TT} {vs : List Nat} {Q : Cl → Prop}
/-- the list so far, by the turn -/
theorem ew_lc (h : IW C wi δ fun ds => ∃ Pv : Nat → List PyData → Prop, Pv 0 [] ∧ ds.length < sizeLine ∧
      (∀ i d acc, ds[i]? = some d → acc.length ≤ i → Pv i acc → GW C g vs d (wipeD δ vs) fun δ2 => TW C tt δ2 fun b => if b = true then EW C te δ2 (fun c => ∃ e, c = .dat e ∧ Pv (i + 1) (acc ++ [e])) else Pv (i + 1) acc) ∧
      ∀ acc, Pv ds.length acc → Q (.own acc)) : EW C (tLc wi g tt te vs) δ Q := fun G H σ e Q' k =>
  h G H σ e _ fun J ds G1 H1 g1 y1 ⟨Pv, p0, hz, hs, hd⟩ => fun D hD => by
    have e1 := e.go' g1
    have hDG := g1.wd.fresh hD
    have hD0 := e1.go.back e.w0 hD
    have hDH := g1.back e.wd hD
    refine ⟨fun i m H' => i ≤ ds.length ∧ m = ds.length - i ∧ ∃ G' acc ws, Go C.R G1 H1 G' H' ∧ acc.length ≤ i ∧ Pv i acc ∧ H' D = some (.lst ws) ∧ G' D = Option.none ∧ DpAll C.K G' ws acc, ⟨ds.length, Nat.zero_le _, by omega, G1, [], [], Go.lay g1.wd hD _, Nat.zero_le _, p0, upd_same, hDG.1, .nil⟩, ?_⟩
    rintro i m H2 ⟨hi, rfl, G2, acc, ws, g2, hl, p2, hD2, hG2, a2⟩
    by_cases hlt : i < ds.length
    · refine .inr ⟨y1.go G2 H2 i g2.ex g2.wd hlt, fun H' => ∃ G' acc ws, Go C.R G1 H1 G' H' ∧ acc.length ≤ i + 1 ∧ Pv (i + 1) acc ∧ H' D = some (.lst ws) ∧ G' D = Option.none ∧ DpAll C.K G' ws acc, fun H' z => ⟨ds.length - (i + 1), by omega, hlt, rfl, z⟩, fun x H3 yx => ?_⟩
      obtain ⟨G3, d, g3, hd3, r3⟩ := y1.yld G2 H2 i x H3 g2.ex g2.wd hlt yx
      have e3 : En C G3 H3 σ δ := (e1.go' g2).go' g3
      have hD3 := g3.keep D _ hD2 hD0.2
      have hG3 := g3.new D _ hD2 hG2
      refine hs i d acc hd3 hl p2 G3 H3 (L2.wipe σ vs) x (e3.wipe vs) r3 _ fun σ4 δ4 e4 f4 l4 h4 => ⟨wipe_of σ σ4 vs f4 l4, ?_⟩
      refine h4 G3 H3 σ4 e4 _ fun b G5 H5 g5 h5 => ?_
      have hD5 := g5.keep D _ hD3 hD0.2
      have hG5 := g5.new D _ hD3 hG3
      cases b with
      | false =>
        rw [if_neg Bool.false_ne_true] at h5 ⊢
        exact ⟨G5, acc, ws, (g2.trans g3).trans g5, by omega, h5, hD5, hG5, dpAll_mono (g3.ex.trans g5.ex) a2⟩
      | true =>
        rw [if_pos rfl] at h5 ⊢
        refine h5 G5 H5 σ4 (e4.go' g5) _ fun v c G6 H6 g6 o6 _ ⟨d6, e6, p6⟩ => ?_
        subst e6
        have hD6 := g6.keep D _ hD5 hD0.2
        have hG6 := g6.new D _ hD5 hG5
        have a6 := dpAll_mono ((g3.ex.trans g5.ex).trans g6.ex) a2
        refine ⟨ws, hD6, by rw [a6.length]; omega, G6, acc ++ [d6], ws ++ [v], (((g2.trans g3).trans g5).trans g6).mut hD hG6 hD0.2 _, by rw [List.length_append]; exact Nat.succ_le_succ hl, p6, upd_same, hG6, a6.append (.cons o6 .nil)⟩
    · have ei : i = ds.length := by omega
      subst ei
      refine .inl ⟨y1.stop G2 H2 g2.ex g2.wd, k _ (.own acc) G2 H2 (g1.trans g2) ⟨D, ws, rfl, hD2, hG2, hD0.2, hD0.1, a2⟩ (fun xs a _ z => ?_) (hd acc p2)⟩
      cases z
      exact hDH.1
/-- by a function: [f x for x in .. if p x] -/
theorem ew_lc_map (h : IW C wi δ fun ds => ∃ (p : PyData → Bool) (f : PyData → PyData), ds.length < sizeLine ∧
      (∀ d, d ∈ ds → GW C g vs d (wipeD δ vs) fun δ2 => TW C tt δ2 fun b => b = p d ∧ (p d = true → EW C te δ2 (fun c => c = .dat (f d)))) ∧
      Q (.own ((ds.filter p).map f))) : EW C (tLc wi g tt te vs) δ Q :=
  ew_lc fun G H σ e R' k => h G H σ e R' fun J ds G1 H1 g1 y1 ⟨p, f, hz, hs, q⟩ => k J ds G1 H1 g1 y1
    ⟨fun i acc => acc = ((ds.take i).filter p).map f, rfl, hz, fun i d acc hd _ ea => by
      have hd' : d ∈ ds := List.mem_of_getElem? hd
      have et : ds.take (i + 1) = ds.take i ++ [d] := by rw [List.take_add_one, hd]; rfl
      refine fun G2 H2 σ2 v e2 r2 Q2 k2 => hs d hd' G2 H2 σ2 v e2 r2 Q2 fun σ3 δ3 e3 f3 l3 h3 => k2 σ3 δ3 e3 f3 l3 fun G4 H4 σ4 e4 Q4 k4 => h3 G4 H4 σ4 e4 Q4 fun b G5 H5 g5 ⟨eb, h5⟩ => k4 b G5 H5 g5 ?_
      subst eb
      cases hp : p d with
      | true =>
        rw [if_pos rfl]
        refine (h5 hp).mono fun c ec => ⟨f d, ec, ?_⟩
        show acc ++ [f d] = ((ds.take (i + 1)).filter p).map f
        rw [et, List.filter_append, List.map_append, ← ea]
        simp [hp]
      | false =>
        rw [if_neg Bool.false_ne_true]
        show acc = ((ds.take (i + 1)).filter p).map f
        rw [et, List.filter_append, List.map_append, ← ea]
        simp [hp], fun acc ea => by
      have ea' : acc = ((ds.take ds.length).filter p).map f := ea
      rw [List.take_length] at ea'
      rw [ea']
      exact q⟩
end

/-! ### statements -/
structure DEnds where
  nx : DSl → Prop
  rt : Cl → Prop
  bk : DSl → Prop := fun _ => False
  ct : DSl → Prop := fun _ => False
structure EndsOk (C : Cn) (Gs : Hp) (D : DEnds) (D' : Ends) : Prop where
  nx : ∀ G H σ δ, Same Gs G → En C G H σ δ → D.nx δ → D'.nx σ H
  rt : ∀ G H v c, Go C.R C.G₀ C.H₀ G H → ClOk C G H v c → (∀ xs, c ≠ .see xs) → D.rt c → D'.rt v H
  bk : ∀ G H σ δ, Same Gs G → En C G H σ δ → D.bk δ → D'.bk σ H
  ct : ∀ G H σ δ, Same Gs G → En C G H σ δ → D.ct δ → D'.ct σ H
theorem EndsOk.mono {C : Cn} {G G1 : Hp} {D : DEnds} {D' : Ends} (k : EndsOk C G D D') (s : Same G G1) : EndsOk C G1 D D' :=
  ⟨fun G2 H σ δ s2 => k.nx G2 H σ δ (s.trans s2), k.rt, fun G2 H σ δ s2 => k.bk G2 H σ δ (s.trans s2), fun G2 H σ δ s2 => k.ct G2 H σ δ (s.trans s2)⟩
def SW (C : Cn) (ts : TS) (D : DEnds) (δ : DSl) : Prop := ∀ G H σ, En C G H σ δ → ∀ D' : Ends, EndsOk C G D D' → ts D' σ H
section
variable {C : Cn} {δ : DSl} {te : TE} {D : DEnds} {t u : TS} {tt : TT}
theorem sw_seq (h : SW C t { D with nx := fun δ' => SW C u D δ' } δ) : SW C (tSeq t u) D δ := fun G H σ e D' k =>
  h G H σ e { D' with nx := u D' } ⟨fun G1 H1 σ1 δ1 s1 e1 h1 => h1 G1 H1 σ1 e1 D' (k.mono s1), k.rt, k.bk, k.ct⟩
theorem sw_next (q : D.nx δ) : SW C tNext D δ := fun G H σ e D' k => k.nx G H σ δ (Same.refl G) e q
theorem sw_brk (q : D.bk δ) : SW C tBreak D δ := fun G H σ e D' k => k.bk G H σ δ (Same.refl G) e q
theorem sw_cont (q : D.ct δ) : SW C tCont D δ := fun G H σ e D' k => k.ct G H σ δ (Same.refl G) e q
theorem sw_asg {i : Nat} (h : EW C te δ fun c => (∀ xs, c ≠ .see xs) ∧ D.nx (δ.set i (some c))) : SW C (tAsg te (gName i)) D δ := fun G H σ e D' k =>
  h G H σ e _ fun v c G1 H1 g1 o1 f1 ⟨ns, q⟩ => k.nx G1 H1 _ _ g1.ex ((e.go' g1).set o1 ns fun xs a e1 e2 j hj e3 ys e4 => by
    obtain ⟨w, q1, b, ws, q2, q3, _⟩ := e.slot j _ e4
    rw [e3] at q1
    cases q1
    cases q2
    rw [f1 xs a e1 e2] at q3
    cases q3) q
theorem sw_asgG {g : TG} (vs : List Nat) (h : EW C te δ fun c => ∃ d, c = .dat d ∧ GW C g vs d δ D.nx) : SW C (tAsg te g) D δ := fun G H σ e D' k =>
  h G H σ e _ fun v c G1 H1 g1 o1 _ ⟨d, e1, h1⟩ => by
    subst e1
    exact h1 G1 H1 σ v (e.go' g1) o1 _ fun σ2 δ2 e2 _ _ q => k.nx G1 H1 σ2 δ2 g1.ex e2 q
theorem sw_par {i j : Nat} {ta : TA} (h : AW C ta δ fun cs => ∃ d d', cs = [.dat d, .dat d'] ∧ D.nx ((δ.set i (some (.dat d))).set j (some (.dat d')))) : SW C (tPar i j ta) D δ := fun G H σ e D' k =>
  h G H σ e _ fun vs cs G1 H1 g1 o1 ⟨d, d', e1, q⟩ => by
    subst e1
    match vs, o1 with
    | [v, w], o1 => exact ⟨v, w, rfl, k.nx G1 H1 _ _ g1.ex (((e.go' g1).setD o1.1).setD o1.2.1) q⟩
theorem sw_drop (h : EW C te δ fun _ => D.nx δ) : SW C (tDrop te) D δ := fun G H σ e D' k =>
  h G H σ e _ fun v c G1 H1 g1 o1 _ q => k.nx G1 H1 σ δ g1.ex (e.go' g1) q
theorem sw_ret (h : EW C te δ fun c => (∀ xs, c ≠ .see xs) ∧ D.rt c) : SW C (tRet te) D δ := fun G H σ e D' k =>
  h G H σ e _ fun v c G1 H1 g1 o1 _ ⟨ns, q⟩ => k.rt G1 H1 v c (e.go.trans g1) o1 ns q
theorem sw_retN (q : D.rt (.dat .none)) : SW C tRetN D δ := fun G H σ e D' k => k.rt G H .non (.dat .none) e.go (Dp.non) (fun _ z => by cases z) q
/-- return of an own list: as it is | as data -/
theorem sw_ret_own {i : Nat} {xs : List PyData} (hi : δ[i]? = some (some (.own xs))) (q : D.rt (.own xs)) : SW C (tRet (tVar i)) D δ := fun G H σ e D' k => by
  obtain ⟨v, h1, h2⟩ := e.slot i _ hi
  exact ⟨v, h1, k.rt G H v _ e.go h2 (fun _ z => by cases z) q⟩
theorem sw_frz {i : Nat} {xs : List PyData} (hi : δ[i]? = some (some (.own xs))) (h : SW C t D (δ.set i (some (.dat (.list xs))))) : SW C t D δ := fun G H σ e D' k => by
  obtain ⟨G', s', e'⟩ := e.frz hi
  exact h G' H σ e' D' (k.mono s')
theorem sw_if (h : TW C tt δ fun b => if b = true then SW C t D δ else SW C u D δ) : SW C (tIfS tt t u) D δ := fun G H σ e D' k =>
  h G H σ e _ fun b G1 H1 g1 h2 => by
    cases b with
    | true => exact h2 G1 H1 σ (e.go' g1) D' (k.mono g1.ex)
    | false => exact h2 G1 H1 σ (e.go' g1) D' (k.mono g1.ex)
/-- found.append(e), found.extend(e), found a list of the def's own -/
theorem sw_append {i : Nat} {xs : List PyData} (hi : δ[i]? = some (some (.own xs))) (h : EW C te δ fun c => ∃ d, c = .dat d ∧ xs.length < sizeLine ∧ D.nx (δ.set i (some (.own (xs ++ [d]))))) :
    SW C (tDrop (tBM C.K "list" rAppend (tVar i) (tCons te tNil))) D δ := fun G H σ e D' k => by
  obtain ⟨v, h1, a, vs, e1, h2, h3, h4, h5, h6⟩ := e.slot i _ hi
  subst e1
  refine ⟨_, h1, .inl ⟨rfl, _, SqL.of h2⟩, ?_⟩
  refine h G H σ e _ fun w c G1 H1 g1 o1 _ ⟨d, e2, hz, q⟩ => ?_
  subst e2
  have h6' := dpAll_mono g1.ex h6
  exact ⟨a, vs, w, rfl, rfl, g1.keep a _ h2 h4, by rw [h6.length]; exact hz, k.nx G1 _ σ _ g1.ex ((e.go' g1).mut hi h1 (h6'.append (.cons o1 .nil))) q⟩
theorem sw_extend {i : Nat} {xs : List PyData} (hi : δ[i]? = some (some (.own xs))) (h : EW C te δ fun c => ∃ ys, c = .own ys ∧ xs.length + ys.length ≤ sizeLine ∧ D.nx (δ.set i (some (.own (xs ++ ys))))) :
    SW C (tDrop (tBM C.K "list" rExtend (tVar i) (tCons te tNil))) D δ := fun G H σ e D' k => by
  obtain ⟨v, h1, a, vs, e1, h2, h3, h4, h5, h6⟩ := e.slot i _ hi
  subst e1
  refine ⟨_, h1, .inl ⟨rfl, _, SqL.of h2⟩, ?_⟩
  refine h G H σ e _ fun w c G1 H1 g1 o1 _ ⟨ys, e2, hz, q⟩ => ?_
  subst e2
  obtain ⟨b, ws, e3, p1, p2, p3, p4, p5⟩ := o1
  subst e3
  have h6' := dpAll_mono g1.ex h6
  exact ⟨a, b, vs, ws, rfl, rfl, g1.keep a _ h2 h4, p1, by rw [h6.length, p5.length]; exact hz, k.nx G1 _ σ _ g1.ex ((e.go' g1).mut hi h1 (h6'.append p5)) q⟩
/-- found[j] = e -/
theorem sw_setL {i : Nat} {xs : List PyData} {ti : TE} (hi : δ[i]? = some (some (.own xs))) (h : EW C te δ fun c => ∃ d, c = .dat d ∧ EW C ti δ fun c' => ∃ (j : Int) (n : Nat), c' = .dat (.int j) ∧ ixN xs.length j = some n ∧ D.nx (δ.set i (some (.own (xs.set n d))))) :
    SW C (tAsg te (gSub (tVar i) ti rSetL)) D δ := fun G H σ e D' k => by
  refine h G H σ e _ fun w c G1 H1 g1 o1 _ ⟨d, e2, h7⟩ => ?_
  subst e2
  have e1 := e.go' g1
  obtain ⟨v, h1, a, vs, ev, h2, h3, h4, h5, h6⟩ := e1.slot i _ hi
  subst ev
  refine ⟨_, h1, ?_⟩
  refine h7 G1 H1 σ e1 _ fun w' c' G2 H2 g2 o2 _ ⟨j, n, e3, hj, q⟩ => ?_
  subst e3
  cases o2
  have h6' := dpAll_mono g2.ex h6
  have o1' := dp_mono g2.ex (show Dp C.K G1 w d from o1)
  exact ⟨a, vs, j, n, rfl, rfl, g2.keep a _ h2 h4, by rw [h6.length]; exact hj, k.nx G2 _ σ _ (g1.ex.trans g2.ex) ((e1.go' g2).mut hi h1 (DpAll.set o1' n h6')) q⟩
theorem sw_aug {i : Nat} {f : Int → Int → Int} {a : Int} (hi : δ[i]? = some (some (.dat (.int a)))) (h : EW C te δ fun c => ∃ b, c = .dat (.int b) ∧ D.nx (δ.set i (some (.dat (.int (f a b)))))) :
    SW C (tAug i te (fun x y H Q => ∃ i j, x = .int i ∧ y = .int j ∧ Q (.int (f i j)) H)) D δ := fun G H σ e D' k => by
  obtain ⟨v, h1, h2⟩ := e.slot i _ hi
  cases h2
  refine ⟨_, h1, ?_⟩
  refine h G H σ e _ fun w c G1 H1 g1 o1 _ ⟨b, e2, q⟩ => ?_
  subst e2
  cases o1
  exact ⟨a, b, rfl, rfl, k.nx G1 H1 _ _ g1.ex ((e.go' g1).setD (.int _)) q⟩
theorem sw_while (Pv : DSl → Prop) (μ : DSl → Nat) (h0 : Pv δ)
    (hs : ∀ δ1, Pv δ1 → TW C tt δ1 fun b => if b = true then SW C t { D with nx := fun δ2 => Pv δ2 ∧ μ δ2 < μ δ1, ct := fun δ2 => Pv δ2 ∧ μ δ2 < μ δ1, bk := D.nx } δ1 else D.nx δ1) : SW C (tWhile tt t) D δ := fun G H σ e D' k => by
  refine ⟨fun m σ1 H1 => ∃ G1 δ1, Same G G1 ∧ En C G1 H1 σ1 δ1 ∧ Pv δ1 ∧ m = μ δ1, ⟨_, G, δ, Same.refl G, e, h0, rfl⟩, ?_⟩
  rintro m σ1 H1 ⟨G1, δ1, s1, e1, p1, rfl⟩
  refine hs δ1 p1 G1 H1 σ1 e1 _ fun b G2 H2 g2 h2 => ?_
  have s2 := s1.trans g2.ex
  cases b with
  | false =>
    rw [if_neg Bool.false_ne_true] at h2 ⊢
    exact k.nx G2 H2 σ1 δ1 s2 (e1.go' g2) h2
  | true =>
    rw [if_pos rfl] at h2 ⊢
    refine ⟨fun σ3 H3 => ∃ G3 δ3, Same G G3 ∧ En C G3 H3 σ3 δ3 ∧ Pv δ3 ∧ μ δ3 < μ δ1, fun σ3 H3 ⟨G3, δ3, s3, e3, p3, l3⟩ => ⟨_, l3, G3, δ3, s3, e3, p3, rfl⟩, ?_⟩
    exact h2 G2 H2 σ1 (e1.go' g2) _ ⟨fun G3 H3 σ3 δ3 s3 e3 p3 => ⟨G3, δ3, s2.trans s3, e3, p3⟩, k.rt, fun G3 H3 σ3 δ3 s3 e3 q => k.nx G3 H3 σ3 δ3 (s2.trans s3) e3 q, fun G3 H3 σ3 δ3 s3 e3 p3 => ⟨G3, δ3, s2.trans s3, e3, p3⟩⟩
theorem sw_for {wi : TI} {g : TG} (vs : List Nat) (h : IW C wi δ fun ds => ∃ Pv : Nat → DSl → Prop, Pv 0 δ ∧
      (∀ i d δ1, ds[i]? = some d → Pv i δ1 → GW C g vs d δ1 fun δ2 => SW C t { D with nx := Pv (i + 1), ct := Pv (i + 1), bk := D.nx } δ2) ∧ ∀ δ1, Pv ds.length δ1 → D.nx δ1) : SW C (tFor wi g t) D δ := fun G H σ e D' k =>
  h G H σ e _ fun J ds G1 H1 g1 y1 ⟨Pv, p0, hs, hd⟩ => by
    refine ⟨fun i m σ2 H2 => i ≤ ds.length ∧ m = ds.length - i ∧ ∃ G2 δ2, Same G1 G2 ∧ En C G2 H2 σ2 δ2 ∧ Pv i δ2, ⟨ds.length, Nat.zero_le _, by omega, G1, δ, Same.refl G1, e.go' g1, p0⟩, ?_⟩
    rintro i m σ2 H2 ⟨hi, rfl, G2, δ2, s2, e2, p2⟩
    by_cases hlt : i < ds.length
    · refine .inr ⟨y1.go G2 H2 i s2 e2.wd hlt, fun σ3 H3 => ∃ G3 δ3, Same G1 G3 ∧ En C G3 H3 σ3 δ3 ∧ Pv (i + 1) δ3, fun σ3 H3 z => ⟨ds.length - (i + 1), by omega, hlt, rfl, z⟩, fun x H3 yx => ?_⟩
      obtain ⟨G3, d, g3, hd3, r3⟩ := y1.yld G2 H2 i x H3 s2 e2.wd hlt yx
      have s3 := s2.trans g3.ex
      refine hs i d δ2 hd3 p2 G3 H3 σ2 x (e2.go' g3) r3 _ fun σ4 δ4 e4 _ _ h4 => ?_
      exact h4 G3 H3 σ4 e4 _ ⟨fun G5 H5 σ5 δ5 s5 e5 p5 => ⟨G5, δ5, s3.trans s5, e5, p5⟩, k.rt, fun G5 H5 σ5 δ5 s5 e5 q => k.nx G5 H5 σ5 δ5 (g1.ex.trans (s3.trans s5)) e5 q, fun G5 H5 σ5 δ5 s5 e5 p5 => ⟨G5, δ5, s3.trans s5, e5, p5⟩⟩
    · have ei : i = ds.length := by omega
      subst ei
      exact .inl ⟨y1.stop G2 H2 s2 e2.wd, k.nx G2 H2 σ2 δ2 (g1.ex.trans s2) e2 (hd δ2 p2)⟩
end
end L3

namespace L3
open PySem PySem.Spec PyProof.Rows L2

/-! ### a def over data -/
abbrev Fsp := Rg → List Cl → (Cl → Prop) → Prop
def ArgOk : Cl → Prop
  | .dat _ => True
  | .raw _ => True
  | .pt _ => True
  | _ => False
def spD (K : PySem.W.Frag) (F : Fsp) : Sp := fun vs H Q _ => ∃ (R : Rg) (G : Hp) (cs : List Cl) (post : Cl → Prop), Wd R G H ∧ ClAll ⟨K, R, G, H⟩ G H vs cs ∧ (∀ c ∈ cs, ArgOk c) ∧ F R cs post ∧
  ∀ v c G' H', Go R G H G' H' → ClOk ⟨K, R, G, H⟩ G' H' v c → (∀ xs, c ≠ .see xs) → post c → Q v H'
theorem ClOk.swap {C C' : Cn} {G H : Hp} (hk : C.K = C'.K) {v : V} {c : Cl} (a : ArgOk c) (h : ClOk C G H v c) : ClOk C' G H v c := by
  cases c with
  | dat d =>
    show Dp C'.K G v d
    rw [← hk]
    exact h
  | raw w => exact h
  | pt ds =>
    obtain ⟨a, vs, o, e, h1, h2, h3, h4⟩ := h
    exact ⟨a, vs, o, e, h1, h2, h3, by rw [← hk]; exact h4⟩
  | own xs => exact a.elim
  | see xs => exact a.elim
theorem ClAll.swap {C C' : Cn} {G H : Hp} (hk : C.K = C'.K) : ∀ {vs : List V} {cs : List Cl}, (∀ c ∈ cs, ArgOk c) → ClAll C G H vs cs → ClAll C' G H vs cs
  | [], [], _, _ => trivial
  | _ :: _, _ :: _, a, h => ⟨h.1.swap hk (a _ List.mem_cons_self), ClAll.swap hk (fun c hc => a c (List.mem_cons_of_mem _ hc)) h.2⟩
  | [], _ :: _, _, h => h.elim
  | _ :: _, [], _, h => h.elim
def startD (N : List Str) (cs : List Cl) : DSl := cs.map some ++ List.replicate (N.length - cs.length) Option.none
theorem ClAll.get {C : Cn} {G H : Hp} : ∀ {vs : List V} {cs : List Cl} {i : Nat} {c : Cl}, ClAll C G H vs cs → cs[i]? = some c → ∃ v, vs[i]? = some v ∧ ClOk C G H v c
  | [], [], _, _, _, h => by simp at h
  | v :: _, c' :: _, 0, c, a, h => by
    simp at h
    subst h
    exact ⟨v, rfl, a.1⟩
  | _ :: _, _ :: _, i + 1, c, a, h => by
    obtain ⟨v, h1, h2⟩ := ClAll.get (i := i) a.2 (by simpa using h)
    exact ⟨v, by simpa using h1, h2⟩
  | [], _ :: _, _, _, a, _ => a.elim
  | _ :: _, [], _, _, a, _ => a.elim
theorem en_start {K : PySem.W.Frag} {R : Rg} {G H : Hp} {N : List Str} {vs : List V} {cs : List Cl} (w : Wd R G H) (a : ClAll ⟨K, R, G, H⟩ G H vs cs) (ok : ∀ c ∈ cs, ArgOk c) : En ⟨K, R, G, H⟩ G H (start N vs) (startD N cs) := by
  have hl := a.length
  have at' : ∀ (i : Nat) (c : Cl), (startD N cs)[i]? = some (some c) → cs[i]? = some c := fun i c h => by
    unfold startD at h
    by_cases hi : i < cs.length
    · rw [List.getElem?_append_left (by simpa using hi), List.getElem?_map] at h
      cases e : cs[i]? with
      | none =>
        rw [e] at h
        cases h
      | some x =>
        rw [e] at h
        cases h
        rfl
    · rw [List.getElem?_append_right (by simpa using hi), List.getElem?_replicate] at h
      split at h <;> cases h
  refine ⟨.refl w, w, ?_, fun i c h => ?_, fun i xs h => ?_, fun i j xs ys b _ h1 _ _ _ => ?_⟩
  · unfold L2.start startD
    rw [List.length_append, List.length_append, List.length_map, List.length_map, List.length_replicate, List.length_replicate, hl]
  · have q := at' i c h
    obtain ⟨v, h1, h2⟩ := a.get q
    refine ⟨v, ?_, h2⟩
    have hi : i < vs.length := (List.getElem?_eq_some_iff.mp h1).1
    unfold L2.start
    rw [List.getElem?_append_left (by simpa using hi), List.getElem?_map, h1]
    rfl
  · exact (ok _ (List.mem_of_getElem? (at' i _ h))).elim
  · exact (ok _ (List.mem_of_getElem? (at' i _ h1))).elim
theorem ew_call {C : Cn} {δ : DSl} {Q : Cl → Prop} {F : Fsp} {E : XK} {t : TA} (h : AW C t δ fun cs => (∀ c ∈ cs, ArgOk c) ∧ F C.R cs Q) : EW C (tCall (spD C.K F) [] E t) δ Q := fun G H σ e Q' k =>
  h G H σ e _ fun vs cs G1 H1 g1 o1 ⟨ao, f⟩ => by
    show spD C.K F (vs ++ []) H1 Q' E
    rw [List.append_nil]
    refine ⟨C.R, G1, cs, Q, g1.wd, ClAll.swap (C := C) (C' := ⟨C.K, C.R, G1, H1⟩) rfl ao o1, ao, f, fun v c G2 H2 g2 ok ns q => ?_⟩
    refine k v c G2 H2 (g1.trans g2) ?_ (fun xs a e1 e2 => ?_) q
    · cases c with
      | dat d => exact ok
      | raw w => exact ok
      | pt ds => exact ok
      | see xs => exact (ns xs rfl).elim
      | own xs =>
        obtain ⟨a, ws, e1, h1, h2, h3, h4, h5⟩ := ok
        exact ⟨a, ws, e1, h1, h2, h3, ((e.go.trans g1).back e.w0 h4).1, h5⟩
    · subst e1
      obtain ⟨a', ws, e3, h1, h2, h3, h4, h5⟩ := ok
      rw [e2] at e3
      cases e3
      exact (g1.back e.wd h4).1
section
variable {P : Program} {w : World} {K : PySem.W.Frag} {mg : Str → Option Value} {base : Heap}
/-- a def by its body over data -/
theorem fn_ok {x qual : Str} {st : Stmt} {f : Addr} {fd : FuncData} {N ps : List Str} {k : Nat} {F : Fsp} (Fu : Fun K x qual st f fd) (S : FnScope N ps (defScope st)) (hlen : ∀ R cs post, F R cs post → cs.length = ps.length)
    (hb : ∀ (cdv : Value) (A : Around) (outer : List Env) (s : Shared) (H : Hp) (E : XK), Room k (A.deeper (envOfC qual (defScope st) s.heap.objs.size f cdv)) →
      ∃ t, PSs (cxOf CX0 P w K mg base N qual (defScope st) f cdv A outer s H E).nox (defBody st) t ∧ ∀ R G cs post, F R cs post → SW ⟨K, R, G, H⟩ t ⟨fun _ => post (.dat .none), post, fun _ => False, fun _ => False⟩ (startD N cs)) :
    FnOk P w K mg base CX0 (k + 1) f fd ps (spD K F) := by
  refine Fu.ok S (fun vs H Q E ⟨R, G, cs, post, w1, a, ao, f1, _⟩ => ?_) (fun cdv A outer s H vs Q E hr ⟨R, G, cs, post, w1, a, ao, f1, q⟩ => ?_)
  · rw [a.length]
    exact hlen R cs post f1
  · obtain ⟨t, d, h⟩ := hb cdv A outer s H E hr
    refine ⟨t, d, h R G cs post f1 G H _ (en_start w1 a ao) _ ⟨fun G1 H1 σ δ _ e1 q1 => ?_, fun G1 H1 v c g1 o1 ns q1 => ?_, fun _ _ _ _ _ _ z => z, fun _ _ _ _ _ _ z => z⟩⟩
    · exact q .non (.dat .none) G1 H1 e1.go Dp.non (fun _ z => by cases z) q1
    · exact q v c G1 H1 g1 o1 ns q1
end

/-! ### calls of built-in functions by data -/
theorem cl1 {C : Cn} {G H : Hp} {vs : List V} {c : Cl} (h : ClAll C G H vs [c]) : ∃ v, vs = [v] ∧ ClOk C G H v c := by
  match vs, h with
  | [v], h => exact ⟨v, rfl, h.1⟩
theorem cl2 {C : Cn} {G H : Hp} {vs : List V} {c d : Cl} (h : ClAll C G H vs [c, d]) : ∃ v u, vs = [v, u] ∧ ClOk C G H v c ∧ ClOk C G H u d := by
  match vs, h with
  | [v, u], h => exact ⟨v, u, rfl, h.1, h.2.1⟩
def IsSq (c : Cl) (xs : List PyData) : Prop := IsLs c xs ∨ c = .dat (.tuple xs)
theorem IsSq.sq {C : Cn} {G H : Hp} {v : V} {c : Cl} {xs : List PyData} (w : Wd C.R G H) (h : ClOk C G H v c) (i : IsSq c xs) : ∃ a vs, v = .ref a ∧ (SqL C.K H a vs ∨ SqT C.K H a vs) ∧ DpAll C.K G vs xs := by
  rcases i with i | i
  · obtain ⟨a, vs, e, s, al⟩ := i.sq w h
    exact ⟨a, vs, e, .inl s, al⟩
  · subst i
    cases h with
    | tup s al => exact ⟨_, _, rfl, .inr (same_t w.ex s), al⟩
def rLen (K : PySem.W.Frag) : List V → Hp → VK → Prop := fun xs H Q => ∃ p ys, xs = [.ref p] ∧ (SqL K H p ys ∨ SqT K H p ys) ∧ Q (.int ys.length) H
def rAbs : List V → Hp → VK → Prop := fun xs H Q => ∃ i, xs = [.int i] ∧ Q (.int (if i < 0 then -i else i)) H
def rInt : List V → Hp → VK → Prop := fun xs H Q => (∃ i, xs = [.int i] ∧ Q (.int i) H) ∨ ∃ k, xs = [.bl k] ∧ Q (.int (if k then 1 else 0)) H
def rMin2 : List V → Hp → VK → Prop := fun xs H Q => ∃ i j, xs = [.int i, .int j] ∧ Q (.int (if j < i then j else i)) H
def rMax2 : List V → Hp → VK → Prop := fun xs H Q => ∃ i j, xs = [.int i, .int j] ∧ Q (.int (if j > i then j else i)) H
def rTup (K : PySem.W.Frag) : List V → Hp → VK → Prop := fun xs H Q => ∃ p ys, xs = [.ref p] ∧ ((SqL K H p ys ∧ ∀ l, H l = Option.none → Q (.ref l) (upd H l (.tup ys))) ∨ (SqT K H p ys ∧ Q (.ref p) H))
/-- tuple(xs), laid as a plain tuple -/
def rTupF (K : PySem.W.Frag) : List V → Hp → VK → Prop := fun xs H Q => ∃ p ys, xs = [.ref p] ∧ SqL K H p ys ∧ ∀ l o, o.cls = .type "tuple" → o.dict = Option.none → H l = Option.none → Q (.ref l) (upd H l (.frz o (.tup ys)))
def rLst (K : PySem.W.Frag) : List V → Hp → VK → Prop := fun xs H Q => ∃ p ys, xs = [.ref p] ∧ (SqL K H p ys ∨ SqT K H p ys) ∧ ∀ l, H l = Option.none → Q (.ref l) (upd H l (.lst ys))
def rReprI : List V → Hp → VK → Prop := fun xs H Q => ∃ i, xs = [.int i] ∧ i.natAbs.log2 < 1920 ∧ Q (.str (toString i)) H
section
variable {X : Cx}
theorem c_len : CallR X (.builtin "len") (rLen X.K) := call_len_seq
theorem c_abs : CallR X (.builtin "abs") rAbs := call_abs
theorem c_int : CallR X (.type "int") rInt := call_int1
theorem c_min2 (hc : X.calm = true) : CallR X (.builtin "min") rMin2 := call_min2 hc
theorem c_max2 (hc : X.calm = true) : CallR X (.builtin "max") rMax2 := call_max2 hc
theorem c_tup : CallR X (.type "tuple") (rTup X.K) := call_tuple_of
theorem c_tupF : CallR X (.type "tuple") (rTupF X.K) := by
  intro pins s σ H xs us Q I r h
  obtain ⟨p, ys, rfl, hq, q⟩ := h
  rw [Vals.ref1 r]
  obtain ⟨its, r', pl, hz⟩ := I.list hq
  have hlen := r'.length
  refine call_tuple_list pl.isList (fun h' kp => ?_) (by rw [List.size_toArray]; omega)
  have J : Inv X pins σ H { s with heap := h' } := I.kept (t' := s.toks) kp
  have ho : (h'.push { cls := .type "tuple", data := .seq its.toArray }).get? h'.objs.size = some { cls := .type "tuple", data := .seq its.toArray } := Heap.get?_push_size _ rfl
  exact ⟨.ref h'.objs.size, upd H h'.objs.size (.frz { cls := .type "tuple", data := .seq its.toArray } (.tup ys)), J.laid (t' := s.toks) (fun b u e => Heap.get?_push_of_some _ e) (Nat.le_refl _) ⟨ho, hz, its, r', ⟨_, ho, rfl, _, rfl⟩⟩, rfl, q _ _ rfl rfl (J.hok.fresh (Nat.le_refl _))⟩
theorem pe_tupF {es : List Expr} {t : TA} {x1 : Nat} {pos : Pos} (h : PA X es t) : PE X (.Tuple es x1 pos) (tTupF t) := by
  refine ⟨fun pins s σ H Q I hq => ?_⟩
  refine wpAny_Tuple_spliced (thn (h.run pos pins s σ H _ I hq) fun us s1 ⟨xs, H1, J, r, z, q⟩ => ⟨by rw [← r.length]; exact z, ?_⟩)
  have ho : (s1.heap.push { cls := .type "tuple", data := .seq us.toArray }).get? s1.heap.objs.size = some { cls := .type "tuple", data := .seq us.toArray } := Heap.get?_push_size _ rfl
  exact ⟨.ref s1.heap.objs.size, upd H1 s1.heap.objs.size (.frz { cls := .type "tuple", data := .seq us.toArray } (.tup xs)), J.laid (t' := s1.toks) (fun b u e => Heap.get?_push_of_some _ e) (Nat.le_refl _) ⟨ho, z, us, r, ⟨_, ho, rfl, _, rfl⟩⟩, rfl, q _ _ rfl rfl (J.hok.fresh (Nat.le_refl _))⟩
theorem c_lst : CallR X (.type "list") (rLst X.K) := call_list_of
theorem c_reprI : CallR X (.builtin "repr") rReprI := SkE.call_repr_int
end
section
variable {C : Cn} {Q : Cl → Prop}
theorem cw_len {c : Cl} {xs : List PyData} (i : IsSq c xs) (q : Q (.dat (.int xs.length))) : CW C (rLen C.K) [c] Q := fun G H vs w _ a Q' k => by
  obtain ⟨v, rfl, ok⟩ := cl1 a
  obtain ⟨p, us, rfl, s, al⟩ := i.sq w ok
  refine ⟨p, us, rfl, s, ?_⟩
  rw [al.length]
  exact k _ (.dat (.int xs.length)) G H (.refl w) (Dp.int _) fr_dat q
theorem cw_abs {i : Int} (q : Q (.dat (.int (i.natAbs : Int)))) : CW C rAbs [.dat (.int i)] Q := fun G H vs w _ a Q' k => by
  obtain ⟨v, rfl, ok⟩ := cl1 a
  cases ok
  refine ⟨i, rfl, ?_⟩
  rw [show (if i < 0 then -i else i) = (i.natAbs : Int) by split <;> omega]
  exact k _ (.dat (.int (i.natAbs : Int))) G H (.refl w) (Dp.int _) fr_dat q
theorem cw_int {i : Int} (q : Q (.dat (.int i))) : CW C rInt [.dat (.int i)] Q := fun G H vs w _ a Q' k => by
  obtain ⟨v, rfl, ok⟩ := cl1 a
  cases ok
  exact .inl ⟨i, rfl, k _ (.dat (.int i)) G H (.refl w) (Dp.int _) fr_dat q⟩
theorem cw_intB {b : Bool} (q : Q (.dat (.int (if b then 1 else 0)))) : CW C rInt [.dat (.bool b)] Q := fun G H vs w _ a Q' k => by
  obtain ⟨v, rfl, ok⟩ := cl1 a
  cases ok
  exact .inr ⟨b, rfl, k _ (.dat (.int (if b then 1 else 0))) G H (.refl w) (Dp.int _) fr_dat q⟩
theorem cw_min2 {i j : Int} (q : Q (.dat (.int (min i j)))) : CW C rMin2 [.dat (.int i), .dat (.int j)] Q := fun G H vs w _ a Q' k => by
  obtain ⟨v, u, rfl, ok, ok'⟩ := cl2 a
  cases ok
  cases ok'
  refine ⟨i, j, rfl, ?_⟩
  rw [show (if j < i then j else i) = min i j by omega]
  exact k _ (.dat (.int (min i j))) G H (.refl w) (Dp.int _) fr_dat q
theorem cw_max2 {i j : Int} (q : Q (.dat (.int (max i j)))) : CW C rMax2 [.dat (.int i), .dat (.int j)] Q := fun G H vs w _ a Q' k => by
  obtain ⟨v, u, rfl, ok, ok'⟩ := cl2 a
  cases ok
  cases ok'
  refine ⟨i, j, rfl, ?_⟩
  rw [show (if j > i then j else i) = max i j by omega]
  exact k _ (.dat (.int (max i j))) G H (.refl w) (Dp.int _) fr_dat q
theorem cw_tup {c : Cl} {xs : List PyData} (i : IsLs c xs) (q : Q (.dat (.tuple xs))) : CW C (rTup C.K) [c] Q := fun G H vs w _ a Q' k => by
  obtain ⟨v, rfl, ok⟩ := cl1 a
  obtain ⟨p, us, rfl, s, al⟩ := i.sq w ok
  refine ⟨p, us, rfl, .inl ⟨s, fun l hl => ?_⟩⟩
  have g := Go.new1 w hl (.tup us)
  exact k _ (.dat (.tuple xs)) _ _ g (Dp.tup (SqT.of upd_same) (dpAll_mono g.ex al)) fr_dat q
theorem cw_tupF {c : Cl} {xs : List PyData} (i : IsLs c xs) (q : Q (.pt xs)) : CW C (rTupF C.K) [c] Q := fun G H vs w _ a Q' k => by
  obtain ⟨v, rfl, ok⟩ := cl1 a
  obtain ⟨p, us, rfl, s, al⟩ := i.sq w ok
  refine ⟨p, us, rfl, s, fun l o hc hd hl => ?_⟩
  have g := Go.new1 w hl (.frz o (.tup us))
  exact k _ (.pt xs) _ _ g ⟨l, us, o, rfl, upd_same, hc, hd, dpAll_mono g.ex al⟩ fr_pt q
theorem cw_tupT {xs : List PyData} (q : Q (.dat (.tuple xs))) : CW C (rTup C.K) [.dat (.tuple xs)] Q := fun G H vs w _ a Q' k => by
  obtain ⟨v, rfl, ok⟩ := cl1 a
  cases ok with
  | tup s al => exact ⟨_, _, rfl, .inr ⟨same_t w.ex s, k _ (.dat (.tuple xs)) G H (.refl w) (Dp.tup s al) fr_dat q⟩⟩
/-- a new list of the items of a list or tuple -/
theorem cw_lst {c : Cl} {xs : List PyData} (i : IsSq c xs) (q : Q (.own xs)) : CW C (rLst C.K) [c] Q := fun G H vs w w0 a Q' k => by
  obtain ⟨v, rfl, ok⟩ := cl1 a
  obtain ⟨p, us, rfl, s, al⟩ := i.sq w ok
  refine ⟨p, us, rfl, s, fun l hl => ?_⟩
  have g := Go.lay w hl (.lst us)
  obtain ⟨hg, hr⟩ := w.fresh hl
  have h0 : C.H₀ l = Option.none := by
    cases e : C.H₀ l with
    | none => rfl
    | some o =>
      have q := w0.keep l o e hr
      rw [hl] at q
      cases q
  exact k _ (.own xs) _ _ g ⟨l, us, rfl, upd_same, hg, hr, h0, al⟩ (fun ys b _ z => by cases z; exact hl) q
theorem cw_sum {c : Cl} {ns : List Int} (i : IsLs c (ns.map .int)) (q : Q (.dat (.int ns.sum))) : CW C (rSum C.K) [c] Q := fun G H vs w _ a Q' k => by
  obtain ⟨v, rfl, ok⟩ := cl1 a
  obtain ⟨p, us, rfl, s, al⟩ := i.sq w ok
  rw [al.ints] at s
  exact ⟨p, ns, rfl, s, k _ (.dat (.int ns.sum)) G H (.refl w) (Dp.int _) fr_dat q⟩
theorem cw_all {c : Cl} {bs : List Bool} (i : IsLs c (bs.map .bool)) (q : Q (.dat (.bool (bs.all id)))) : CW C (rAll C.K) [c] Q := fun G H vs w _ a Q' k => by
  obtain ⟨v, rfl, ok⟩ := cl1 a
  obtain ⟨p, us, rfl, s, al⟩ := i.sq w ok
  rw [al.bools] at s
  exact ⟨p, bs, rfl, s, k _ (.dat (.bool (bs.all id))) G H (.refl w) (Dp.bl _) fr_dat q⟩
theorem cw_any {c : Cl} {bs : List Bool} (i : IsLs c (bs.map .bool)) (q : Q (.dat (.bool (bs.any id)))) : CW C (rAny C.K) [c] Q := fun G H vs w _ a Q' k => by
  obtain ⟨v, rfl, ok⟩ := cl1 a
  obtain ⟨p, us, rfl, s, al⟩ := i.sq w ok
  rw [al.bools] at s
  exact ⟨p, bs, rfl, s, k _ (.dat (.bool (bs.any id))) G H (.refl w) (Dp.bl _) fr_dat q⟩
theorem cw_reprI {i : Int} (h : i.natAbs.log2 < 1920) (q : Q (.dat (.str (toString i)))) : CW C rReprI [.dat (.int i)] Q := fun G H vs w _ a Q' k => by
  obtain ⟨v, rfl, ok⟩ := cl1 a
  cases ok
  exact ⟨i, rfl, h, k _ (.dat (.str (toString i))) G H (.refl w) (Dp.str _) fr_dat q⟩
end

/-! ### the least and the greatest of ints -/
def lmin : List Int → Int
  | [] => 0
  | n :: ns => ns.foldl min n
def lmax : List Int → Int
  | [] => 0
  | n :: ns => ns.foldl max n
def rMinI (K : PySem.W.Frag) : List V → Hp → VK → Prop := fun vs H Q => ∃ (a : Addr) (ns : List Int), vs = [V.ref a] ∧ (SqL K H a (ns.map V.int) ∨ SqT K H a (ns.map V.int)) ∧ ns ≠ [] ∧ Q (.int (lmin ns)) H
def rMaxI (K : PySem.W.Frag) : List V → Hp → VK → Prop := fun vs H Q => ∃ (a : Addr) (ns : List Int), vs = [V.ref a] ∧ (SqL K H a (ns.map V.int) ∨ SqT K H a (ns.map V.int)) ∧ ns ≠ [] ∧ Q (.int (lmax ns)) H
theorem alike_ints (ns : List Int) : PySem.W.AlikeAll (ns.map PyData.int) := by
  refine ⟨fun x hx y hy => ?_, fun x hx => ?_⟩
  · obtain ⟨i, _, rfl⟩ := List.mem_map.mp hx
    obtain ⟨j, _, rfl⟩ := List.mem_map.mp hy
    rfl
  · obtain ⟨i, _, rfl⟩ := List.mem_map.mp hx
    exact fun z => by cases z
theorem depth_ints : ∀ ns : List Int, PyData.depthAll (ns.map PyData.int) = 0
  | [] => rfl
  | n :: ns => by
    have := depth_ints ns
    simp [PyData.depthAll, PyData.depth, this]
section
variable {X : Cx}
theorem read_ints {pins : List (Addr × Obj)} {σ : L2.St} {H : Hp} {s : Shared} (I : Inv X pins σ H s) {its : List Value} {ns : List Int} (rv : Vals (ns.map V.int) its) : ∃ as, ReadsAll s.heap its (ns.map PyData.int) as :=
  Dp.readsAll I (ns.map PyData.int) (ns.map V.int) its (DpAll.ofInts ns) rv
theorem c_minI (hc : X.calm = true) (hu : X.A.units + 1 < cLine) : CallR X (.builtin "min") (rMinI X.K) := by
  intro pins s σ H vs us Q I r h
  obtain ⟨a, ns, rfl, hs, hne, q⟩ := h
  rw [Vals.ref1 r]
  cases ns with
  | nil => exact (hne rfl).elim
  | cons n ns =>
    have done : ∀ (v : Value) (h' : Heap) (tk : Nat) (bs : List Addr), Reads h' v (PySem.W.minD (.int n) (ns.map .int)) bs → (∀ b o, s.heap.get? b = some o → h'.get? b = some o) → EP X pins σ Q v { s with heap := h', toks := tk } := fun v h' tk bs rd hk => by
      rw [PySem.W.minD_ints] at rd
      cases rd
      exact ⟨.int _, H, I.kept hk, ⟨_, rfl⟩, q⟩
    have hd : X.A.units + 1 + PyData.depthAll (PyData.int n :: ns.map PyData.int) < cLine := by
      have := depth_ints (n :: ns)
      rw [List.map_cons] at this
      rw [this]
      exact hu
    rcases hs with hs | hs
    · obtain ⟨its, rv, hl, _⟩ := I.list hs
      obtain ⟨as, hr⟩ := read_ints I rv
      exact PySem.W.min_list_data (I.ok.hd hc) hl.isList (by simpa using hr) (alike_ints (n :: ns)) hd fun i v h' tk bs _ rd hk => done v h' tk bs rd hk
    · obtain ⟨its, rv, hl, _⟩ := I.tuple hs
      obtain ⟨as, hr⟩ := read_ints I rv
      exact PySem.W.min_tuple_data (I.ok.hd hc) (show s.heap.IsTuple a its.toArray from hl) (by simpa using hr) (alike_ints (n :: ns)) hd fun i v h' tk bs _ rd hk => done v h' tk bs rd hk
theorem c_maxI (hc : X.calm = true) (hu : X.A.units + 1 < cLine) : CallR X (.builtin "max") (rMaxI X.K) := by
  intro pins s σ H vs us Q I r h
  obtain ⟨a, ns, rfl, hs, hne, q⟩ := h
  rw [Vals.ref1 r]
  cases ns with
  | nil => exact (hne rfl).elim
  | cons n ns =>
    have done : ∀ (v : Value) (h' : Heap) (tk : Nat) (bs : List Addr), Reads h' v (PySem.W.maxD (.int n) (ns.map .int)) bs → (∀ b o, s.heap.get? b = some o → h'.get? b = some o) → EP X pins σ Q v { s with heap := h', toks := tk } := fun v h' tk bs rd hk => by
      rw [PySem.W.maxD_ints] at rd
      cases rd
      exact ⟨.int _, H, I.kept hk, ⟨_, rfl⟩, q⟩
    have hd : X.A.units + 1 + PyData.depthAll (PyData.int n :: ns.map PyData.int) < cLine := by
      have := depth_ints (n :: ns)
      rw [List.map_cons] at this
      rw [this]
      exact hu
    rcases hs with hs | hs
    · obtain ⟨its, rv, hl, _⟩ := I.list hs
      obtain ⟨as, hr⟩ := read_ints I rv
      exact PySem.W.max_list_data (I.ok.hd hc) hl.isList (by simpa using hr) (alike_ints (n :: ns)) hd fun i v h' tk bs _ rd hk => done v h' tk bs rd hk
    · obtain ⟨its, rv, hl, _⟩ := I.tuple hs
      obtain ⟨as, hr⟩ := read_ints I rv
      exact PySem.W.max_tuple_data (I.ok.hd hc) (show s.heap.IsTuple a its.toArray from hl) (by simpa using hr) (alike_ints (n :: ns)) hd fun i v h' tk bs _ rd hk => done v h' tk bs rd hk
end
section
variable {C : Cn} {Q : Cl → Prop}
theorem cw_minI {c : Cl} {ns : List Int} (i : IsSq c (ns.map .int)) (hne : ns ≠ []) (q : Q (.dat (.int (lmin ns)))) : CW C (rMinI C.K) [c] Q := fun G H vs w _ a Q' k => by
  obtain ⟨v, rfl, ok⟩ := cl1 a
  obtain ⟨p, us, rfl, s, al⟩ := i.sq w ok
  rw [al.ints] at s
  exact ⟨p, ns, rfl, s, hne, k _ (.dat (.int (lmin ns))) G H (.refl w) (Dp.int _) fr_dat q⟩
theorem cw_maxI {c : Cl} {ns : List Int} (i : IsSq c (ns.map .int)) (hne : ns ≠ []) (q : Q (.dat (.int (lmax ns)))) : CW C (rMaxI C.K) [c] Q := fun G H vs w _ a Q' k => by
  obtain ⟨v, rfl, ok⟩ := cl1 a
  obtain ⟨p, us, rfl, s, al⟩ := i.sq w ok
  rw [al.ints] at s
  exact ⟨p, ns, rfl, s, hne, k _ (.dat (.int (lmax ns))) G H (.refl w) (Dp.int _) fr_dat q⟩
end

/-! ### slices, sums of sequences -/
def cutD (xs : List PyData) (lo hi : Option Int) : List PyData := (xs.drop (HT.sIx xs.length 0 lo)).take (HT.sIx xs.length xs.length hi - HT.sIx xs.length 0 lo)
theorem dp_cut {K : PySem.W.Frag} {G : Hp} {vs : List V} {xs : List PyData} (al : DpAll K G vs xs) (lo hi : Option Int) : DpAll K G (cutV vs lo hi) (cutD xs lo hi) := by
  unfold cutV cutD
  rw [al.length]
  exact (al.drop _).take _
def OW (C : Cn) (to : TO) (δ : DSl) (Q : Option Int → Prop) : Prop :=
  ∀ G H σ, En C G H σ δ → ∀ Q' : Option Int → Hp → Prop, (∀ o G' H', Go C.R G H G' H' → Q o → Q' o H') → to σ H Q'
def SlW (C : Cn) (r : V → Option Int → Option Int → Hp → VK → Prop) (x : Cl) (lo hi : Option Int) (Q : Cl → Prop) : Prop :=
  ∀ G H vx, Wd C.R G H → Go C.R C.G₀ C.H₀ G H → ClOk C G H vx x → ∀ Q' : VK, (∀ v c G' H', Go C.R G H G' H' → ClOk C G' H' v c → Fr H v c → Q c → Q' v H') → r vx lo hi H Q'
section
variable {C : Cn} {δ : DSl} {te : TE} {Q : Cl → Prop}
theorem ow_no {Q : Option Int → Prop} (q : Q Option.none) : OW C tNoPart δ Q := fun G H σ e Q' k => k _ G H (.refl e.wd) q
theorem ow_part {Q : Option Int → Prop} (h : EW C te δ fun c => ∃ i, c = .dat (.int i) ∧ Q (some i)) : OW C (tPart te) δ Q := fun G H σ e Q' k =>
  h G H σ e _ fun v c G1 H1 g1 o1 _ ⟨i, e1, q⟩ => by
    subst e1
    cases o1
    exact ⟨i, rfl, k _ G1 H1 g1 q⟩
theorem ew_sl {r : V → Option Int → Option Int → Hp → VK → Prop} {tl th : TO} (h : EW C te δ fun x => OW C tl δ fun l => OW C th δ fun u => SlW C r x l u Q) : EW C (tSl r te tl th) δ Q := fun G H σ e Q' k =>
  h G H σ e _ fun v c G1 H1 g1 o1 _ h1 => h1 G1 H1 σ (e.go' g1) _ fun l G2 H2 g2 h2 => h2 G2 H2 σ ((e.go' g1).go' g2) _ fun u G3 H3 g3 h3 =>
    h3 G3 H3 v g3.wd (((e.go.trans g1).trans g2).trans g3) ((o1.go g2).go g3) Q' fun v' c' G4 H4 g4 o4 f4 q => k v' c' G4 H4 (((g1.trans g2).trans g3).trans g4) o4 (Fr.back ((g1.trans g2).trans g3) e.wd f4) q
theorem slw_list {c : Cl} {xs : List PyData} {lo hi : Option Int} (i : IsLs c xs) (q : Q (.own (cutD xs lo hi))) : SlW C (rSlL C.K) c lo hi Q := fun G H vx w w0 ok Q' k => by
  obtain ⟨p, us, rfl, s, al⟩ := i.sq w ok
  refine ⟨p, us, rfl, s, fun l hl => ?_⟩
  have g := Go.lay w hl (.lst (cutV us lo hi))
  obtain ⟨hg, hr⟩ := w.fresh hl
  have h0 : C.H₀ l = Option.none := by
    cases e : C.H₀ l with
    | none => rfl
    | some o =>
      have q := w0.keep l o e hr
      rw [hl] at q
      cases q
  exact k _ (.own (cutD xs lo hi)) _ _ g ⟨l, _, rfl, upd_same, hg, hr, h0, dp_cut al lo hi⟩ (fun ys b _ z => by cases z; exact hl) q
theorem slw_tup {xs : List PyData} {lo hi : Option Int} (q : Q (.dat (.tuple (cutD xs lo hi)))) : SlW C (rSlA C.K) (.dat (.tuple xs)) lo hi Q := fun G H vx w w0 ok Q' k => by
  cases ok with
  | @tup a vs _ s al =>
    have hl := al.length
    refine ⟨a, vs, rfl, same_t w.ex s, fun z => ?_, fun z p hp => ?_⟩
    · have e : cutD xs lo hi = xs := by
        unfold cutD
        rw [← hl, z.1, z.2, List.drop_zero, Nat.sub_zero, hl, List.take_length]
      rw [e] at q
      exact k _ (.dat (.tuple xs)) G H (.refl w) (Dp.tup s al) fr_dat q
    · have g := Go.new1 w hp (.tup (cutV vs lo hi))
      exact k _ (.dat (.tuple (cutD xs lo hi))) _ _ g (Dp.tup (SqT.of upd_same) (dpAll_mono g.ex (dp_cut al lo hi))) fr_dat q
theorem rw_catT {xs ys : List PyData} (hz : xs.length + ys.length ≤ sizeLine) (q : Q (.dat (.tuple (xs ++ ys)))) : RW C (rCatA C.K) (.dat (.tuple xs)) (.dat (.tuple ys)) Q := fun G H vx vy w w0 hx hy Q' k => by
  cases hx with
  | @tup a vs _ s al =>
    cases hy with
    | @tup b us _ s' al' =>
      have l1 := al.length
      have l2 := al'.length
      refine ⟨a, b, vs, us, rfl, rfl, same_t w.ex s, same_t w.ex s', by rw [l1, l2]; exact hz, fun z => ?_, fun z1 z2 => ?_, fun z1 z2 p hp => ?_⟩
      · subst z
        cases al
        exact k _ (.dat (.tuple ys)) G H (.refl w) (Dp.tup s' al') fr_dat q
      · subst z2
        cases al'
        rw [List.append_nil] at q
        exact k _ (.dat (.tuple xs)) G H (.refl w) (Dp.tup s al) fr_dat q
      · have g := Go.new1 w hp (.tup (vs ++ us))
        exact k _ (.dat (.tuple (xs ++ ys))) _ _ g (Dp.tup (SqT.of upd_same) (dpAll_mono g.ex (al.append al'))) fr_dat q
/-- lists of the def's own joined -/
def IsOwn : Cl → List PyData → Prop
  | .own ys, xs => ys = xs
  | .see ys, xs => ys = xs
  | _, _ => False
theorem IsOwn.at' {C : Cn} {G H : Hp} {v : V} {c : Cl} {xs : List PyData} (h : ClOk C G H v c) (i : IsOwn c xs) : ∃ a vs, v = .ref a ∧ H a = some (.lst vs) ∧ DpAll C.K G vs xs := by
  cases c with
  | dat d => exact i.elim
  | own ys =>
    cases i
    obtain ⟨a, vs, e, h1, h2, h3, h4, h5⟩ := h
    exact ⟨a, vs, e, h1, h5⟩
  | see ys =>
    cases i
    obtain ⟨a, vs, e, h1, h3, h5⟩ := h
    exact ⟨a, vs, e, h1, h5⟩
  | raw w => exact i.elim
  | pt ds => exact i.elim
theorem rw_cat {c d : Cl} {xs ys : List PyData} (i : IsOwn c xs) (j : IsOwn d ys) (hz : xs.length + ys.length ≤ sizeLine) (q : Q (.own (xs ++ ys))) : RW C rCat c d Q := fun G H vx vy w w0 hx hy Q' k => by
  obtain ⟨a, vs, rfl, h1, al⟩ := i.at' hx
  obtain ⟨b, us, rfl, h2, al'⟩ := j.at' hy
  refine ⟨a, b, vs, us, rfl, rfl, h1, h2, by rw [al.length, al'.length]; exact hz, fun l hl => ?_⟩
  have g := Go.lay w hl (.lst (vs ++ us))
  obtain ⟨hg, hr⟩ := w.fresh hl
  have h0 : C.H₀ l = Option.none := by
    cases e : C.H₀ l with
    | none => rfl
    | some o =>
      have q := w0.keep l o e hr
      rw [hl] at q
      cases q
  exact k _ (.own (xs ++ ys)) _ _ g ⟨l, _, rfl, upd_same, hg, hr, h0, al.append al'⟩ (fun ys b _ z => by cases z; exact hl) q
/-- == of lists at hand (own lists too) -/
theorem dp_ls {C : Cn} {G H : Hp} {v : V} {c : Cl} {xs : List PyData} (w : Wd C.R G H) (h : ClOk C G H v c) (i : IsLs c xs) : Dp C.K H v (.list xs) := by
  obtain ⟨a, vs, rfl, s, al⟩ := i.sq w h
  exact .lst s (dpAll_mono w.ex al)
theorem rw_eqL {c d : Cl} {xs ys : List PyData} (i : IsLs c xs) (j : IsLs d ys) (hd : SeqAt.shaped (.list xs) = true) (he : SeqAt.shaped (.list ys) = true) (q : Q (.dat (.bool (PyData.eqv (.list xs) (.list ys))))) : RW C (rEqD C.K) c d Q := fun G H vx vy w _ hx hy Q' k =>
  ⟨_, _, dp_ls w hx i, dp_ls w hy j, hd, he, k _ (.dat (.bool _)) G H (.refl w) (Dp.bl _) fr_dat q⟩
theorem rw_neL {c d : Cl} {xs ys : List PyData} (i : IsLs c xs) (j : IsLs d ys) (hd : SeqAt.shaped (.list xs) = true) (he : SeqAt.shaped (.list ys) = true) (q : Q (.dat (.bool (!PyData.eqv (.list xs) (.list ys))))) : RW C (rNeD C.K) c d Q := fun G H vx vy w _ hx hy Q' k =>
  ⟨_, _, dp_ls w hx i, dp_ls w hy j, hd, he, k _ (.dat (.bool _)) G H (.refl w) (Dp.bl _) fr_dat q⟩
/-- xs.count(n), ints -/
def MW (C : Cn) (r : V → List V → Hp → VK → Prop) (x : Cl) (cs : List Cl) (Q : Cl → Prop) : Prop :=
  ∀ G H vx vs, Wd C.R G H → Go C.R C.G₀ C.H₀ G H → ClOk C G H vx x → ClAll C G H vs cs → ∀ Q' : VK, (∀ v c G' H', Go C.R G H G' H' → ClOk C G' H' v c → Fr H v c → Q c → Q' v H') → r vx vs H Q'
theorem ew_bmL {r : V → List V → Hp → VK → Prop} {t : TA} (h : EW C te δ fun x => (∃ xs, IsLs x xs) ∧ AW C t δ fun cs => MW C r x cs Q) : EW C (tBM C.K "list" r te t) δ Q := fun G H σ e Q' k =>
  h G H σ e _ fun v c G1 H1 g1 o1 _ ⟨⟨xs, i⟩, h2⟩ => by
    obtain ⟨a, vs, e1, s, al⟩ := i.sq g1.wd o1
    refine ⟨?_, h2 G1 H1 σ (e.go' g1) _ fun ws cs G2 H2 g2 o2 h3 => ?_⟩
    · subst e1
      exact .inl ⟨rfl, vs, s⟩
    · exact h3 G2 H2 v ws g2.wd ((e.go.trans g1).trans g2) (o1.go g2) o2 Q' fun v' c' G3 H3 g3 o3 f3 q => k v' c' G3 H3 ((g1.trans g2).trans g3) o3 (Fr.back (g1.trans g2) e.wd f3) q
theorem mw_count {c : Cl} {ns : List Int} {n : Int} (i : IsLs c (ns.map .int)) (q : Q (.dat (.int (ns.count n : Nat)))) : MW C (rCntI C.K) c [.dat (.int n)] Q := fun G H vx vs w _ hx a Q' k => by
  obtain ⟨v, rfl, ok⟩ := cl1 a
  cases ok
  obtain ⟨p, us, rfl, s, al⟩ := i.sq w hx
  rw [al.ints] at s
  exact ⟨p, ns, n, rfl, rfl, s, k _ (.dat (.int (ns.count n : Nat))) G H (.refl w) (Dp.int _) fr_dat q⟩
end
end L3

/-! L3d: zip and enumerate over lists and tuples in any mix -/
namespace L3
open PySem PySem.Spec PyProof.Rows L2

/-- a source: a tuple (true) or a list -/
def Sb (K : PySem.W.Frag) (k : Bool) (H : Hp) (a : Addr) (xs : List V) : Prop := match k with
  | true => SqT K H a xs
  | false => SqL K H a xs
def SqV (k : Bool) (h : Heap) (a : Addr) (its : Array Value) : Prop := match k with
  | true => h.IsTuple a its
  | false => h.IsList a its
def SqIt (k : Bool) (h : Heap) (it a : Addr) (i : Nat) : Prop := match k with
  | true => h.IsTupleIter it a i
  | false => h.IsListIter it a i
def itObj (k : Bool) (a : Addr) : Obj := match k with
  | true => { cls := .type "tuple_iterator", data := .fields #[.ref a, .int 0 0] }
  | false => { cls := .type "list_iterator", data := .fields #[.ref a, .int 0 0] }
theorem sqv_lt {k : Bool} {h : Heap} {a : Addr} {its : Array Value} (x : SqV k h a its) : a < h.objs.size := by
  cases k with
  | true =>
    obtain ⟨o, e, _⟩ := x
    exact Heap.lt_size e
  | false =>
    obtain ⟨o, e, _⟩ := x
    exact Heap.lt_size e
theorem sqv_keep {k : Bool} {h h' : Heap} {a : Addr} {its : Array Value} (x : SqV k h a its) (e : ∀ o, h.get? a = some o → h'.get? a = some o) : SqV k h' a its := by
  cases k with
  | true =>
    obtain ⟨o, q, r⟩ := x
    exact ⟨o, e o q, r⟩
  | false =>
    obtain ⟨o, q, r⟩ := x
    exact ⟨o, e o q, r⟩
theorem sqit_keep {k : Bool} {h h' : Heap} {it a : Addr} {i : Nat} (x : SqIt k h it a i) (e : ∀ o, h.get? it = some o → h'.get? it = some o) : SqIt k h' it a i := by
  cases k with
  | true =>
    obtain ⟨o, q, r⟩ := x
    exact ⟨o, e o q, r⟩
  | false =>
    obtain ⟨o, q, r⟩ := x
    exact ⟨o, e o q, r⟩
theorem sqit_obj {k : Bool} {h : Heap} {it a : Addr} {i : Nat} (x : SqIt k h it a i) : ∃ o, h.get? it = some o ∧ ∀ v, o.data ≠ .cell v := by
  cases k with
  | true =>
    obtain ⟨o, q, _, d⟩ := x
    exact ⟨o, q, fun v z => by rw [d] at z; cases z⟩
  | false =>
    obtain ⟨o, q, _, d⟩ := x
    exact ⟨o, q, fun v z => by rw [d] at z; cases z⟩
theorem sqit_zero {k : Bool} {h : Heap} {it a : Addr} (e : h.get? it = some (itObj k a)) : SqIt k h it a 0 := by
  cases k with
  | true => exact ⟨_, e, rfl, rfl⟩
  | false => exact ⟨_, e, rfl, rfl⟩
theorem sqit_ne {k : Bool} {h : Heap} {it a : Addr} {i : Nat} {its : Array Value} (x : SqIt k h it a i) (y : SqV k h a its) : a ≠ it := fun z => by
  subst z
  cases k with
  | true =>
    obtain ⟨o, q, c, _⟩ := x
    obtain ⟨o', q', c', _⟩ := y
    rw [q] at q'
    cases q'
    rw [c] at c'
    exact absurd c' (by decide)
  | false =>
    obtain ⟨o, q, c, _⟩ := x
    obtain ⟨o', q', c', _⟩ := y
    rw [q] at q'
    cases q'
    rw [c] at c'
    exact absurd c' (by decide)
theorem draws_sq {P : Program} {w : World} {A : Around} (k : Bool) (hh : A.handled = Option.none) (it a : Addr) (hne : a ≠ it) (its : Array Value) :
    Draws P w A it [it, a] its.size (fun i v => its[i]? = some v) (fun i h => SqIt k h it a i ∧ SqV k h a its) := by
  cases k with
  | true => exact Draws.tuple hh it a hne its
  | false => exact Draws.list hh it a hne its
theorem begins_sq (k : Bool) (a : Addr) (its : Array Value) : Begins (.ref a) (itObj k a) (fun h => SqV k h a its) := by
  cases k with
  | true => exact begins_tuple a its
  | false => exact begins_list a its
section
variable {X : Cx} {pins : List (Addr × Obj)} {σ : L2.St} {H : Hp} {s : Shared}
theorem inv_sb (I : Inv X pins σ H s) {k : Bool} {a : Addr} {xs : List V} (h : Sb X.K k H a xs) : ∃ its : List Value, Vals xs its ∧ SqV k s.heap a its.toArray ∧ xs.length ≤ sizeLine := by
  cases k with
  | true =>
    obtain ⟨its, rv, p, z⟩ := I.tuple h
    exact ⟨its, rv, p, z⟩
  | false =>
    obtain ⟨its, rv, p, z⟩ := I.list h
    exact ⟨its, rv, p.isList, z⟩
theorem inv_sb_inj (I : Inv X pins σ H s) {k : Bool} {a : Addr} {xs ys : List V} (h : Sb X.K k H a xs) (h' : Sb X.K k H a ys) : xs = ys := by
  cases k with
  | true => exact I.tuple_inj h h'
  | false => exact I.list_inj h h'
end

/-! ### an iterator of new tuples, told by the library's GoesN -/
theorem turn_gn {P : Program} {w : World} {K : PySem.W.Frag} {tg : Expr} {z : Addr} {fp wr : List Addr} {St : Nat → Heap → Prop} {go stop : Nat → Hp → Prop} {Yv : Nat → Hp → List V → Prop}
    (mem : z ∈ fp) (sub : ∀ b ∈ wr, b ∈ fp) (obj : ∀ i h, St i h → ∀ b ∈ fp, ∃ o, h.get? b = some o ∧ ∀ v, o.data ≠ .cell v)
    (keep : ∀ i h h', St i h → (∀ b ∈ fp, ∀ o, h.get? b = some o → h'.get? b = some o) → St i h')
    (self : ∀ (A : Around) (i : Nat) (s : Shared) (Q : Value → Shared → Prop) (E : Value → Shared → Prop), St i s.heap → Q (.ref z) s → wpAny (model P w) A (pyIter (.ref z)) Q E s)
    (item : ∀ (X : Cx), X.prog = P → X.w = w → X.K = K → X.calm = true → ∀ (i : Nat) (pins : List (Addr × Obj)) (s : Shared) (σ : L2.St) (H : Hp), Inv X pins σ H s → St i s.heap → go i H →
      ∃ (n : Nat) (fp' : List Addr) (Pt : Nat → Array Value → Prop) (St' : Nat → Heap → Prop), i < n ∧ GoesN P w X.A tg z fp' wr n (fun i h0 v h => ∃ T vals, v = .ref T ∧ h0.objs.size ≤ T ∧ Pt i vals ∧ h.IsTuple T vals) St' ∧ St' i s.heap ∧
        (∀ h, St' (i + 1) h → St (i + 1) h) ∧ ∀ vals, Pt i vals → ∃ xs, Vals xs vals.toList ∧ xs.length ≤ 10 ∧ Yv i H xs)
    (done : ∀ (X : Cx), X.prog = P → X.w = w → X.K = K → X.calm = true → ∀ (i : Nat) (pins : List (Addr × Obj)) (s : Shared) (σ : L2.St) (H : Hp), Inv X pins σ H s → St i s.heap → stop i H →
      ∃ (fp' : List Addr) (Y : Nat → Heap → Value → Heap → Prop) (St' : Nat → Heap → Prop), GoesN P w X.A tg z fp' wr i Y St' ∧ St' i s.heap) :
    Turn P w K tg ⟨go, fun i H v H' => ∃ T xs, v = .ref T ∧ H T = Option.none ∧ H' = upd H T (.tup xs) ∧ Yv i H xs, stop⟩ fp z St where
  mem := mem
  obj := obj
  keep := keep
  item := by
    intro X hP hw hK hc i pins s σ H E I hf st hg
    obtain ⟨n, fp', Pt, St', hi, W, st', nx, yv⟩ := item X hP hw hK hc i pins s σ H I st hg
    refine wpAny_mono (W.goes i s (fun v s2 => ∃ x H', Inv X pins σ H' s2 ∧ RelV x v ∧ (∃ T xs, x = .ref T ∧ H T = Option.none ∧ H' = upd H T (.tup xs) ∧ Yv i H xs) ∧ St (i + 1) s2.heap ∧ ∀ b ∈ fp, H' b = Option.none) E hi st' ?_) (fun r s1 q => q) (fun _ _ q => q)
    intro v h' tk ⟨T, vals, ev, hT, hpt, hit⟩ st2 hk _
    obtain ⟨xs, rv, hl, y⟩ := yv vals hpt
    have hn : H T = Option.none := I.hok.fresh hT
    have new : ObjOk X.prog X.w (upd H T (.tup xs)) h' T (.tup xs) := ⟨Nat.le_trans hl (by decide), vals.toList, rv, hit⟩
    have I1 : Inv X pins σ (upd H T (.tup xs)) { s with heap := h', toks := tk } := I.turnedNew (ch := wr) (fun b o hb q => hk b o hb q) (fun b hb => hf b (sub b hb)) hT new
    refine ⟨.ref T, _, I1, ev, ⟨T, xs, rfl, hn, rfl, y⟩, nx h' st2, fun b hb => ?_⟩
    obtain ⟨o, e, _⟩ := obj i _ st b hb
    rw [upd_ne (Nat.ne_of_lt (Nat.lt_of_lt_of_le (Heap.lt_size e) hT))]
    exact (hf b hb).1
  done := by
    intro X hP hw hK hc i pins s σ H E I hf st hg
    obtain ⟨fp', Y, St', W, st'⟩ := done X hP hw hK hc i pins s σ H I st hg
    exact wpAny_mono (W.stops s (fun s2 => Inv X pins σ H s2) E st' fun h' tk hk _ => I.turnedL (ch := wr) (fun b o hb q => hk b o hb q) (fun b hb => hf b (sub b hb))) (fun r s1 q => q) (fun _ _ q => q)
  self := self

/-! ### zip of two -/
def ItZ2 (K : PySem.W.Frag) (k1 k2 : Bool) (a b : Addr) : It :=
  ⟨fun i H => ∃ xs ys, Sb K k1 H a xs ∧ Sb K k2 H b ys ∧ i < min xs.length ys.length,
    fun i H v H' => ∃ T zs, v = .ref T ∧ H T = Option.none ∧ H' = upd H T (.tup zs) ∧ ∃ x y, zs = [x, y] ∧ (∀ xs, Sb K k1 H a xs → xs[i]? = some x) ∧ (∀ ys, Sb K k2 H b ys → ys[i]? = some y),
    fun i H => ∃ xs ys, Sb K k1 H a xs ∧ Sb K k2 H b ys ∧ i = min xs.length ys.length⟩
theorem turn_z2 {P : Program} {w : World} {K : PySem.W.Frag} {elts : List Expr} {kk : Nat} {tpos : Pos} {k1 k2 : Bool} {a b z TI TO i1 i2 : Addr} (S : ZipSep2 z TI TO i1 i2 [i1, a] [i2, b]) :
    Turn P w K (.Tuple elts kk tpos) (ItZ2 K k1 k2 a b) [z, TI, TO, i1, i2] z (fun i h => IsZip h z TI TO .none ∧ IsTupOf2 h TI (.ref i1) (.ref i2) ∧ (∃ a1 a2, IsTupOf2 h TO a1 a2) ∧ SqIt k1 h i1 a i ∧ SqIt k2 h i2 b i) := by
  refine turn_gn (wr := [z, TO, i1, i2]) (by simp) (by simp) (fun i h st c hc => ?_) (fun i h h' st k => ?_) (fun A i s Q E st q => wpAny_pyIter_zip st.1 q) (fun X hP hw hK hc i pins s σ H I st hg => ?_) (fun X hP hw hK hc i pins s σ H I st hg => ?_)
  · obtain ⟨hz, hTI, ⟨x, y, hTO⟩, h1, h2⟩ := st
    have e' : c = z ∨ c = TI ∨ c = TO ∨ c = i1 ∨ c = i2 := by simpa using hc
    rcases e' with q | q | q | q | q
    · rw [q]; exact ⟨_, hz, fun v q => nomatch q⟩
    · rw [q]; exact ⟨_, hTI, fun v q => nomatch q⟩
    · rw [q]; exact ⟨_, hTO, fun v q => nomatch q⟩
    · rw [q]; exact sqit_obj h1
    · rw [q]; exact sqit_obj h2
  · obtain ⟨hz, hTI, ⟨x, y, hTO⟩, h1, h2⟩ := st
    exact ⟨k z (by simp) _ hz, k TI (by simp) _ hTI, ⟨x, y, k TO (by simp) _ hTO⟩, sqit_keep h1 fun o q => k i1 (by simp) o q, sqit_keep h2 fun o q => k i2 (by simp) o q⟩
  · subst hP hw hK
    obtain ⟨hz, hTI, hTO, h1, h2⟩ := st
    obtain ⟨xs, ys, hx, hy, hi⟩ := hg
    obtain ⟨us, ru, p1, _⟩ := inv_sb I hx
    obtain ⟨ws, rw', p2, _⟩ := inv_sb I hy
    have hh : X.A.in1.handled = Option.none := I.ok.hd hc
    have D1 := draws_sq (P := X.prog) (w := X.w) k1 hh i1 a (sqit_ne h1 p1) us.toArray
    have D2 := draws_sq (P := X.prog) (w := X.w) k2 hh i2 b (sqit_ne h2 p2) ws.toArray
    have l1 := ru.length
    have l2 := rw'.length
    refine ⟨_, _, fun i vals => ∃ x y, us.toArray[i]? = some x ∧ ws.toArray[i]? = some y ∧ vals = #[x, y], _, ?_, (GoesN.zip2 S D1 D2).mono fun i h0 v h _ ⟨T, x, y, e1, e2, e3, e4, e5⟩ => ⟨T, #[x, y], e1, e2, ⟨x, y, e3, e4, rfl⟩, e5⟩, ⟨hz, hTI, hTO, ⟨h1, p1⟩, ⟨h2, p2⟩⟩, fun h q => ⟨q.1, q.2.1, q.2.2.1, q.2.2.2.1.1, q.2.2.2.2.1⟩, fun vals ⟨x, y, e3, e4, e5⟩ => ?_⟩
    · rw [List.size_toArray, List.size_toArray, ← l1, ← l2]
      exact hi
    · subst e5
      have m1 : i < xs.length := by omega
      have m2 : i < ys.length := by omega
      obtain ⟨u, g1, r1⟩ := ru.get (List.getElem?_eq_getElem m1)
      obtain ⟨u', g2, r2⟩ := rw'.get (List.getElem?_eq_getElem m2)
      have f1 : u = x := Option.some.inj (g1.symm.trans (by simpa using e3))
      have f2 : u' = y := Option.some.inj (g2.symm.trans (by simpa using e4))
      subst f1 f2
      exact ⟨[xs[i], ys[i]], .cons r1 (.cons r2 .nil), by simp, _, _, rfl, fun zs hz => by rw [inv_sb_inj I hz hx]; exact List.getElem?_eq_getElem m1, fun zs hz => by rw [inv_sb_inj I hz hy]; exact List.getElem?_eq_getElem m2⟩
  · subst hP hw hK
    obtain ⟨hz, hTI, hTO, h1, h2⟩ := st
    obtain ⟨xs, ys, hx, hy, hi⟩ := hg
    obtain ⟨us, ru, p1, _⟩ := inv_sb I hx
    obtain ⟨ws, rw', p2, _⟩ := inv_sb I hy
    have hh : X.A.in1.handled = Option.none := I.ok.hd hc
    have D1 := draws_sq (P := X.prog) (w := X.w) k1 hh i1 a (sqit_ne h1 p1) us.toArray
    have D2 := draws_sq (P := X.prog) (w := X.w) k2 hh i2 b (sqit_ne h2 p2) ws.toArray
    have l1 := ru.length
    have l2 := rw'.length
    have en : i = min us.toArray.size ws.toArray.size := by
      rw [List.size_toArray, List.size_toArray, ← l1, ← l2]
      exact hi
    have W := GoesN.zip2 (elts := elts) (x1 := kk) (pos := tpos) S D1 D2
    rw [← en] at W
    exact ⟨_, _, _, W, ⟨hz, hTI, hTO, ⟨h1, p1⟩, ⟨h2, p2⟩⟩⟩
/-- what is asked of the two -/
def iZ2 (K : PySem.W.Frag) (ta : TA) : TI := fun σ H R => ta σ H fun vs H1 => ∃ k1 k2 a b xs ys, vs = [.ref a, .ref b] ∧ Sb K k1 H1 a xs ∧ Sb K k2 H1 b ys ∧ R (ItZ2 K k1 k2 a b) H1
theorem pi_z2 {X : Cx} {e e2 : Expr} {ta : TA} {p pos tpos : Pos} {elts : List Expr} {kk : Nat} (hg : Gl X "zip") (hm : X.mg "zip" = Option.none) (ha : PA X [e, e2] ta)
    (hs : starEach [e, e2] X.env = (false, eval e X.env) :: starEach [e2] X.env := by rfl) (hpl : (backTo pos (starEach [e2] X.env)).any (·.1) = false := by rfl) :
    PI X (.Tuple elts kk tpos) (.Call (.Name "zip" p) [e, e2] [] pos) (iZ2 X.K ta) := by
  refine ⟨fun pins s σ H R I h => ?_⟩
  refine Call_ (ld_blt I hg hm PyProof.Rows.boot_zip (PyProof.Rows.callWith_type1 (thn (ha.run pos pins s σ H _ I h) fun us s1 ⟨vs, H1, I1, r1, q1⟩ => ?_) hs hpl))
  obtain ⟨k1, k2, a, b, xs, ys, ex, hx, hy, q⟩ := q1
  subst ex
  cases r1 with
  | cons r rr =>
    cases rr with
    | cons r' rr =>
      cases rr
      cases r
      cases r'
      obtain ⟨its, rv, p1, _⟩ := inv_sb I1 hx
      obtain ⟨its2, rv2, p2, _⟩ := inv_sb I1 hy
      refine zip_begins2 (begins_sq k1 a its.toArray) (begins_sq k2 b its2.toArray) p1 p2 fun h' hz hTI hTO g1 g2 hsz hk => wpAny_pyIter_zip hz ?_
      have I2 : Inv X pins σ H1 { s1 with heap := h' } := I1.kept (t' := s1.toks) hk
      have sep := zip_sep2 (N := s1.heap.objs.size) (fp1 := [a]) (fp2 := [b]) (fun c hc => by rw [List.mem_singleton.mp hc]; exact sqv_lt p1) (fun c hc => by rw [List.mem_singleton.mp hc]; exact sqv_lt p2)
      refine ⟨_, _, _, _, H1, rfl, I2, turn_z2 sep, ⟨hz, hTI, ⟨_, _, hTO⟩, sqit_zero g1, sqit_zero g2⟩, fun c hcm => ?_, q⟩
      have hle : s1.heap.objs.size ≤ c := by
        have e' : c = s1.heap.objs.size + 4 ∨ c = s1.heap.objs.size + 2 ∨ c = s1.heap.objs.size + 3 ∨ c = s1.heap.objs.size ∨ c = s1.heap.objs.size + 1 := by simpa using hcm
        rcases e' with z | z | z | z | z
        · rw [z]; exact Nat.le_add_right _ _
        · rw [z]; exact Nat.le_add_right _ _
        · rw [z]; exact Nat.le_add_right _ _
        · rw [z]; exact Nat.le_refl _
        · rw [z]; exact Nat.le_add_right _ _
      exact I1.fpOk hle (I1.hok.fresh hle)

/-! ### enumerate -/
def ItEn (K : PySem.W.Frag) (k1 : Bool) (a : Addr) : It :=
  ⟨fun i H => ∃ xs, Sb K k1 H a xs ∧ i < xs.length,
    fun i H v H' => ∃ T zs, v = .ref T ∧ H T = Option.none ∧ H' = upd H T (.tup zs) ∧ ∃ x, zs = [.int (i : Nat), x] ∧ (∀ xs, Sb K k1 H a xs → xs[i]? = some x),
    fun i H => ∃ xs, Sb K k1 H a xs ∧ i = xs.length⟩
theorem turn_en {P : Program} {w : World} {K : PySem.W.Frag} {elts : List Expr} {kk : Nat} {tpos : Pos} {k1 : Bool} {a e it : Addr} (hei : e ≠ it) (hea : e ≠ a) :
    Turn P w K (.Tuple elts kk tpos) (ItEn K k1 a) [e, it] e (fun i h => (∃ old, IsEnum h e it (0 + (i : Int)) old) ∧ SqIt k1 h it a i) := by
  refine turn_gn (wr := [e, it]) (by simp) (by simp) (fun i h st c hc => ?_) (fun i h h' st k => ?_) (fun A i s Q E st q => let ⟨⟨_, he⟩, _⟩ := st; wpAny_pyIter_enum he q) (fun X hP hw hK hc i pins s σ H I st hg => ?_) (fun X hP hw hK hc i pins s σ H I st hg => ?_)
  · obtain ⟨⟨old, he⟩, h1⟩ := st
    have e' : c = e ∨ c = it := by simpa using hc
    rcases e' with q | q
    · rw [q]; exact ⟨_, he, fun v q => nomatch q⟩
    · rw [q]; exact sqit_obj h1
  · obtain ⟨⟨old, he⟩, h1⟩ := st
    exact ⟨⟨old, k e (by simp) _ he⟩, sqit_keep h1 fun o q => k it (by simp) o q⟩
  · subst hP hw hK
    obtain ⟨he, h1⟩ := st
    obtain ⟨xs, hx, hi⟩ := hg
    obtain ⟨us, ru, p1, _⟩ := inv_sb I hx
    have hh : X.A.in1.handled = Option.none := I.ok.hd hc
    have D1 := draws_sq (P := X.prog) (w := X.w) k1 hh it a (sqit_ne h1 p1) us.toArray
    have l1 := ru.length
    refine ⟨_, _, fun i vals => ∃ t x, us.toArray[i]? = some x ∧ vals = #[.int (0 + (i : Int)) t, x], _, ?_, (GoesN.enumFrom 0 D1 e hei (by simp [hei, hea]) (by simp)).mono fun i h0 v h _ ⟨T, t, x, e1, e2, e3, e5⟩ => ⟨T, _, e1, e2, ⟨t, x, e3, rfl⟩, e5⟩, ⟨he, h1, p1⟩, fun h q => ⟨q.1, q.2.1⟩, fun vals ⟨t, x, e3, e5⟩ => ?_⟩
    · rw [List.size_toArray, ← l1]
      exact hi
    · subst e5
      obtain ⟨u, g1, r1⟩ := ru.get (List.getElem?_eq_getElem hi)
      have f1 : u = x := Option.some.inj (g1.symm.trans (by simpa using e3))
      subst f1
      refine ⟨[.int (i : Nat), xs[i]], .cons ⟨t, ?_⟩ (.cons r1 .nil), by simp, _, rfl, fun zs hz => by rw [inv_sb_inj I hz hx]; exact List.getElem?_eq_getElem hi⟩
      rw [Int.zero_add]
  · subst hP hw hK
    obtain ⟨he, h1⟩ := st
    obtain ⟨xs, hx, hi⟩ := hg
    obtain ⟨us, ru, p1, _⟩ := inv_sb I hx
    have hh : X.A.in1.handled = Option.none := I.ok.hd hc
    have D1 := draws_sq (P := X.prog) (w := X.w) k1 hh it a (sqit_ne h1 p1) us.toArray
    have l1 := ru.length
    have en : i = us.toArray.size := by
      rw [List.size_toArray, ← l1]
      exact hi
    have W := GoesN.enumFrom (elts := elts) (x1 := kk) (pos := tpos) 0 D1 e hei (by simp [hei, hea]) (by simp)
    rw [← en] at W
    exact ⟨_, _, _, W, ⟨he, h1, p1⟩⟩
def iEn (K : PySem.W.Frag) (ta : TA) : TI := fun σ H R => ta σ H fun vs H1 => ∃ k1 a xs, vs = [.ref a] ∧ Sb K k1 H1 a xs ∧ R (ItEn K k1 a) H1
set_option maxHeartbeats 1000000 in
/-- enumerate's making over anything that begins so -/
theorem meets_en1 {v : Value} {o : Obj} {Hq : Heap → Prop} (B : Begins v o Hq) :
    Meets (Builtin.«enumerate.__new__» ⟨[.type "enumerate", v], []⟩) fun _ R s => Hq s.heap ∧
      R (.ok (.ret (.ref (s.heap.push o).objs.size))) { s with heap := (s.heap.push o).push { cls := .type "enumerate", data := .fields #[.none, .bool false, .ref s.heap.objs.size, rawInt 0, .none, .none] } } := by
  refine .of_wp fun prog w A R s h => ?_
  obtain ⟨hp, g, d, tk, os⟩ := s
  obtain ⟨h1, h⟩ := h
  have hsub := sub_enumerate
  have look : ∀ {A' : Around} {E Q : Value → Shared → Prop}, Q (.ref hp.objs.size) ⟨hp.push o, g, d, tk, os⟩ → wpAny (model prog w) A' (pyIter v) Q E ⟨hp, g, d, tk, os⟩ := fun q => B.iter prog w _ _ ⟨hp, g, d, tk, os⟩ _ h1 q
  wp_walk using look
  refine wpAny_stack_any fun st => wpAny_pure ?_
  split
  · rename_i c _ _ _ _ _
    cases (c == Value.type "enumerate")
    all_goals (wp_walk using look; exact ⟨_, rfl, h⟩)
  · wp_walk using look
    exact ⟨_, rfl, h⟩
theorem en_begins {prog : Program} {w : World} {A : Around} {E : Value → Shared → Prop} {s : Shared} {v : Value} {o : Obj} {Hq : Heap → Prop} {Q : Value → Shared → Prop} (B : Begins v o Hq) (h1 : Hq s.heap)
    (h : ∀ h', IsEnum h' (s.heap.objs.size + 1) s.heap.objs.size 0 .none → h'.get? s.heap.objs.size = some o → (∀ b o, s.heap.get? b = some o → h'.get? b = some o) → Q (.ref (s.heap.objs.size + 1)) { s with heap := h' }) :
    wpAny (model prog w) A (call (.type "enumerate") [v]) Q E s := by
  refine callType_new F.called_enumerate (by decide) (F.typeCall_enumerate_1 _) (F.newCall_enumerate_1 _) (fun obj => F.args_object_init_2 obj _) F.entry_enumerate_new (meets_en1 B) ⟨h1, ?_⟩
  have hz : (s.heap.push o).objs.size = s.heap.objs.size + 1 := Heap.size_push ..
  have he := Heap.get?_push_size (s.heap.push o) (o := { cls := .type "enumerate", data := .fields #[.none, .bool false, .ref s.heap.objs.size, rawInt 0, .none, .none] }) rfl
  rw [hz] at he ⊢
  exact ⟨⟨_, he, rfl⟩, h _ he (Heap.get?_push_of_some _ (Heap.get?_push_size _ B.free)) fun b o x => Heap.get?_push_of_some _ (Heap.get?_push_of_some _ x)⟩
theorem pi_en {X : Cx} {e : Expr} {ta : TA} {p pos tpos : Pos} {elts : List Expr} {kk : Nat} (hg : Gl X "enumerate") (hm : X.mg "enumerate" = Option.none) (ha : PA X [e] ta) (hs : starEach [e] X.env = [(false, eval e X.env)] := by rfl) :
    PI X (.Tuple elts kk tpos) (.Call (.Name "enumerate" p) [e] [] pos) (iEn X.K ta) := by
  refine ⟨fun pins s σ H R I h => ?_⟩
  refine Call_ (ld_blt I hg hm boot_enumerate (PyProof.Rows.callWith_type1 (thn (ha.run pos pins s σ H _ I h) fun us s1 ⟨vs, H1, I1, r1, q1⟩ => ?_) hs rfl))
  obtain ⟨k1, a, xs, ex, hx, q⟩ := q1
  subst ex
  cases r1 with
  | cons r rr =>
    cases rr
    cases r
    obtain ⟨its, rv, p1, _⟩ := inv_sb I1 hx
    refine en_begins (begins_sq k1 a its.toArray) p1 fun h' he g1 hk => wpAny_pyIter_enum he ?_
    have I2 : Inv X pins σ H1 { s1 with heap := h' } := I1.kept (t' := s1.toks) hk
    refine ⟨_, _, _, _, H1, rfl, I2, turn_en (Nat.succ_ne_self _) (Nat.ne_of_gt (Nat.lt_succ_of_lt (sqv_lt p1))), ⟨⟨_, he⟩, sqit_zero g1⟩, fun c hcm => ?_, q⟩
    have e' : c = s1.heap.objs.size + 1 ∨ c = s1.heap.objs.size := by simpa using hcm
    have hle : s1.heap.objs.size ≤ c := by
      rcases e' with z | z
      · rw [z]; exact Nat.le_add_right _ _
      · rw [z]; exact Nat.le_refl _
    exact I1.fpOk hle (I1.hok.fresh hle)

/-! ### over data -/
def IsSqK (k : Bool) (c : Cl) (xs : List PyData) : Prop := match k with
  | true => c = .dat (.tuple xs)
  | false => c = .dat (.list xs)
theorem sb_of {C : Cn} {G H : Hp} {k : Bool} {v : V} {c : Cl} {xs : List PyData} (w : Wd C.R G H) (h : ClOk C G H v c) (i : IsSqK k c xs) : ∃ a vs, v = .ref a ∧ (∀ G1 H1, Same G G1 → Wd C.R G1 H1 → Sb C.K k H1 a vs) ∧ DpAll C.K G vs xs := by
  cases k with
  | true =>
    cases i
    cases h with
    | tup s al => exact ⟨_, _, rfl, fun G1 H1 e w1 => same_t (e.trans w1.ex) s, al⟩
  | false =>
    cases i
    cases h with
    | lst s al => exact ⟨_, _, rfl, fun G1 H1 e w1 => (e.trans w1.ex).seq s, al⟩
def zipD (xs ys : List PyData) : List PyData := (xs.zip ys).map fun p => .tuple [p.1, p.2]
def enumD (xs : List PyData) : List PyData := xs.zipIdx.map fun p => .tuple [.int (p.2 : Nat), p.1]
theorem enumD_get (xs : List PyData) (i : Nat) : (enumD xs)[i]? = (xs[i]?).map fun d => .tuple [.int (i : Nat), d] := by
  unfold enumD
  rw [List.getElem?_map, List.getElem?_zipIdx]
  cases xs[i]? with
  | none => rfl
  | some d => simp
theorem iw_z2 {C : Cn} {δ : DSl} {Q : List PyData → Prop} {t : TA} (h : AW C t δ fun cs => ∃ k1 k2 c1 c2 xs ys, cs = [c1, c2] ∧ IsSqK k1 c1 xs ∧ IsSqK k2 c2 ys ∧ Q (zipD xs ys)) : IW C (iZ2 C.K t) δ Q := fun G H σ e R' k =>
  h G H σ e _ fun vs cs G1 H1 g1 o1 ⟨k1, k2, c1, c2, xs, ys, e1, i1, i2, q⟩ => by
    subst e1
    match vs, o1 with
    | [v1, v2], o1 =>
      obtain ⟨a, us, rfl, s1, al1⟩ := sb_of g1.wd o1.1 i1
      obtain ⟨b, ws, rfl, s2, al2⟩ := sb_of g1.wd o1.2.1 i2
      have l1 := al1.length
      have l2 := al2.length
      have hl : (zipD xs ys).length = min us.length ws.length := by
        unfold zipD
        rw [List.length_map, List.length_zip, l1, l2]
      refine ⟨k1, k2, a, b, us, ws, rfl, s1 _ _ (Same.refl _) g1.wd, s2 _ _ (Same.refl _) g1.wd, k _ _ G1 H1 g1 ⟨fun G2 H2 i ex w2 hi => ?_, fun G2 H2 ex w2 => ?_, fun G2 H2 i x H3 ex w2 hi y => ?_⟩ q⟩
      · exact ⟨us, ws, s1 _ _ ex w2, s2 _ _ ex w2, by rw [← hl]; exact hi⟩
      · exact ⟨us, ws, s1 _ _ ex w2, s2 _ _ ex w2, hl⟩
      · obtain ⟨T, zs, rfl, hT, rfl, x1, x2, rfl, f1, f2⟩ := y
        obtain ⟨d1, h1, r1⟩ := al1.get' (f1 us (s1 _ _ ex w2))
        obtain ⟨d2, h2, r2⟩ := al2.get' (f2 ws (s2 _ _ ex w2))
        have g := Go.new1 w2 hT (.tup [x1, x2])
        refine ⟨_, .tuple [d1, d2], g, ?_, .tup (SqT.of upd_same) (.cons (dp_mono (ex.trans g.ex) r1) (.cons (dp_mono (ex.trans g.ex) r2) .nil))⟩
        unfold zipD
        rw [List.getElem?_map, (List.getElem?_zip_eq_some (z := (d1, d2))).mpr ⟨h1, h2⟩]
        rfl
theorem iw_en {C : Cn} {δ : DSl} {Q : List PyData → Prop} {t : TA} (h : AW C t δ fun cs => ∃ k1 c1 xs, cs = [c1] ∧ IsSqK k1 c1 xs ∧ Q (enumD xs)) : IW C (iEn C.K t) δ Q := fun G H σ e R' k =>
  h G H σ e _ fun vs cs G1 H1 g1 o1 ⟨k1, c1, xs, e1, i1, q⟩ => by
    subst e1
    match vs, o1 with
    | [v1], o1 =>
      obtain ⟨a, us, rfl, s1, al1⟩ := sb_of g1.wd o1.1 i1
      have l1 := al1.length
      have hl : (enumD xs).length = us.length := by
        unfold enumD
        rw [List.length_map, List.length_zipIdx, l1]
      refine ⟨k1, a, us, rfl, s1 _ _ (Same.refl _) g1.wd, k _ _ G1 H1 g1 ⟨fun G2 H2 i ex w2 hi => ?_, fun G2 H2 ex w2 => ?_, fun G2 H2 i x H3 ex w2 hi y => ?_⟩ q⟩
      · exact ⟨us, s1 _ _ ex w2, by rw [← hl]; exact hi⟩
      · exact ⟨us, s1 _ _ ex w2, hl⟩
      · obtain ⟨T, zs, rfl, hT, rfl, x1, rfl, f1⟩ := y
        obtain ⟨d1, h1, r1⟩ := al1.get' (f1 us (s1 _ _ ex w2))
        have g := Go.new1 w2 hT (.tup [.int (i : Nat), x1])
        refine ⟨_, .tuple [.int (i : Nat), d1], g, ?_, .tup (SqT.of upd_same) (.cons (.int _) (.cons (dp_mono (ex.trans g.ex) r1) .nil))⟩
        rw [enumD_get, h1]
        rfl
end L3

/-! L3e: a plain tuple's index, a region of one list of three ints, sorted(set(list of ints)) -/
namespace L3
open PySem PySem.Spec PyProof.Rows L2

/-! ### t.index(n), t a plain tuple of ints -/
def rIdxI : V → List V → Hp → VK → Prop := fun x xs H Q => ∃ (p : Addr) (ob : Obj) (ns : List Int) (z : Int) (j : Nat), x = .ref p ∧ xs = [.int z] ∧ H p = some (.frz ob (.tup (ns.map V.int))) ∧ ns[j]? = some z ∧ (∀ m, m < j → ns[m]? ≠ some z) ∧ Q (.int (j : Nat)) H
def tIdx (to : TE) (t : TA) : TE := fun σ H Q => to σ H fun x H1 => (∃ a ob vs, x = .ref a ∧ H1 a = some (.frz ob (.tup vs)) ∧ ob.cls = .type "tuple" ∧ ob.dict = Option.none) ∧ t σ H1 fun xs H2 => rIdxI x xs H2 Q
section
variable {X : Cx}
theorem mt_idxI : MtR X "tuple.index" rIdxI := by
  intro pins s σ H x xs v us Q I rx rs h
  obtain ⟨p, ob, ns, z, j, rfl, rfl, hp, hy, hno, q⟩ := h
  have hq : SqT X.K H p (ns.map V.int) := .inl (.inr ⟨ob, hp⟩)
  cases rx
  obtain ⟨u, rfl, t, rfl⟩ := vals1 rs
  obtain ⟨its, r, pl, hz⟩ := I.tuple hq
  obtain ⟨⟨oc, od, odt, osl⟩, ho, hc, n, hd⟩ := pl
  simp only at hc hd
  subst hc hd
  have hl : its.toArray.size = ns.length := by rw [List.size_toArray, ← r.length, List.length_map]
  have hj : j < its.toArray.size := by
    rw [hl]
    exact (List.getElem?_eq_some_iff.mp hy).1
  have spot : ∀ (m : Nat) (hm : m < its.toArray.size), ∃ y t', ns[m]? = some y ∧ its.toArray[m] = Value.int y t' := fun m hm => by
    have hm' : m < ns.length := by rw [← hl]; exact hm
    obtain ⟨w', hw, t', hw'⟩ := r.get (i := m) (x := .int ns[m]) (by simp [hm'])
    refine ⟨ns[m], t', List.getElem?_eq_getElem hm', ?_⟩
    have e := (List.getElem?_eq_some_iff.mp hw).2
    rw [← hw', ← e]
    simp
  have fl : (ns.map V.int).all flatV = true := by
    rw [List.all_map]
    exact List.all_eq_true.mpr fun _ _ => rfl
  have ee : ∀ (y : Int) (t' : Tok), eqU (.int z) (Value.int y t') = (y == z) := fun y t' => rfl
  refine call_meets PySem.F.slot_tuple_index ⟨_, ho, rfl⟩ PySem.F.entry_tuple_index (PySem.F.args_tuple_index_2 _ _) (TI.tuple_indexAt p its.toArray n od osl (.int z t) (eqU (.int z)) j hj ?_ ?_)
    ⟨ho, fun w' hw => mem_eqAt (x := .int z) ⟨t, rfl⟩ rfl r fl w' (by simpa using hw), ⟨.int (j : Nat), H, I.tok _, ⟨_, rfl⟩, q⟩⟩
  · obtain ⟨y, t', h1, h2⟩ := spot j hj
    rw [hy] at h1
    cases h1
    rw [h2, ee]
    exact beq_self_eq_true z
  · intro m hm hmj
    obtain ⟨y, t', h1, h2⟩ := spot m hm
    have ne : y ≠ z := fun q => hno m hmj (by rw [h1, q])
    rw [h2, ee]
    exact beq_eq_false_iff_ne.mpr ne
theorem pe_tindex {o e : Expr} {es : List Expr} {to : TE} {t : TA} {apos cpos : Pos} (ho : PE X o to) (ha : PA X (e :: es) t)
    (hb : attributeBase o "index" X.env (eval o X.env) = eval o X.env := by rfl)
    (hf : ((backTo cpos (starEach (e :: es) X.env)).all (fun x => !x.1) && (backToKw cpos (keywordEach [] X.env)).all (fun x => x.1.isSome) && decide ((e :: es).length + ([] : List Keyword).length + (if ([] : List Keyword).isEmpty then 0 else 1) < 30)) = true := by rfl)
    (hl : (apos.endLine == cpos.line) = true := by rfl) (hs : starEach (e :: es) X.env = (false, eval e X.env) :: starEach es X.env := by rfl) (hp : (backTo cpos (starEach es X.env)).any (·.1) = false := by rfl) :
    PE X (.Call (.Attribute o "index" apos) (e :: es) [] cpos) (tIdx to t) := by
  refine ⟨fun pins s σ H Q I h => ?_⟩
  refine wpAny_Call_method_late hb hf hl rfl (thn (ho.run pins s σ H _ I h) fun v s1 ⟨x, H1, J, r1, ⟨a, ob, vs, ex, hH, hc, hd⟩, q1⟩ => ?_)
  have ho' : s1.heap.get? a = some ob := (show ObjOk X.prog X.w H1 s1.heap a (.frz ob (.tup vs)) from J.hok a _ hH).1
  have rr : v = .ref a := by
    subst ex
    cases r1
    rfl
  refine ⟨"tuple", "tuple.index", PySem.F.plainAttrs_tuple, PySem.F.slot_tuple_index, PySem.F.type_tuple_index, by rw [rr]; exact ⟨ob, ho', hc⟩, fun b eb => ?_, ?_⟩
  · rw [rr] at eb
    cases eb
    exact ⟨ob, ho', hd⟩
  · have hA := ha.run cpos pins s1 σ H1 _ J q1
    rw [hs] at hA ⊢
    exact Calls.callWith_builtin (by show (false || (backTo cpos (starEach es X.env)).any (·.1)) = false; rw [hp]; rfl) (Calls.evalArgs_plain (thn hA fun us s2 ⟨ws, H2, J2, r2, q2⟩ => mt_idxI pins s2 σ H2 x ws v us Q J2 r1 r2 q2))
end
def idxOf (z : Int) : List Int → Option Nat
  | [] => Option.none
  | n :: ns => if n = z then some 0 else (idxOf z ns).map (· + 1)
theorem idxOf_spec {z : Int} : ∀ {ns : List Int} {j : Nat}, idxOf z ns = some j → ns[j]? = some z ∧ ∀ m, m < j → ns[m]? ≠ some z
  | [], j, h => by cases h
  | n :: ns, j, h => by
    unfold idxOf at h
    by_cases e : n = z
    · rw [if_pos e] at h
      cases h
      exact ⟨by simp [e], fun m hm => absurd hm (Nat.not_lt_zero m)⟩
    · rw [if_neg e] at h
      cases e2 : idxOf z ns with
      | none =>
        rw [e2] at h
        cases h
      | some k =>
        rw [e2] at h
        cases h
        obtain ⟨h1, h2⟩ := idxOf_spec e2
        refine ⟨by simpa using h1, fun m hm => ?_⟩
        have hm : m < k + 1 := hm
        cases m with
        | zero => simpa using e
        | succ m => simpa using h2 m (by omega)
theorem ew_idx {C : Cn} {δ : DSl} {to te : TE} {Q : Cl → Prop} (h : EW C to δ fun c => ∃ ns : List Int, c = .pt (ns.map .int) ∧ EW C te δ fun c' => ∃ (z : Int) (j : Nat), c' = .dat (.int z) ∧ idxOf z ns = some j ∧ Q (.dat (.int (j : Nat)))) : EW C (tIdx to (tCons te tNil)) δ Q := fun G H σ e Q' k =>
  h G H σ e _ fun v c G1 H1 g1 o1 _ ⟨ns, e1, h2⟩ => by
    subst e1
    obtain ⟨a, vs, ob, rfl, p1, p2, p3, al⟩ := o1
    have hH : ∀ G2 H2, Go C.R G1 H1 G2 H2 → H2 a = some (.frz ob (.tup vs)) := fun G2 H2 g2 => g2.wd.ex a _ (g2.ex a _ p1)
    refine ⟨⟨a, ob, vs, rfl, hH G1 H1 (.refl g1.wd), p2, p3⟩, h2 G1 H1 σ (e.go' g1) _ fun v' c' G2 H2 g2 o2 _ ⟨z, j, e2, hj, q⟩ => ?_⟩
    subst e2
    cases o2
    obtain ⟨i1, i2⟩ := idxOf_spec hj
    refine ⟨a, ob, ns, z, j, rfl, rfl, ?_, i1, i2, k _ (.dat (.int (j : Nat))) G2 H2 (g1.trans g2) (Dp.int _) fr_dat q⟩
    rw [← al.ints]
    exact hH G2 H2 g2

/-! ### a region: one list of three ints -/
def Rsp (p : Addr) : Rg := ⟨fun b => b = p, fun H => ∃ a b c : Int, (0 ≤ b ∧ b < 4611686018427387904) ∧ H p = some (.lst [.int a, .int b, .int c]), fun H H' e ⟨a, b, c, hb, h⟩ => ⟨a, b, c, hb, by rw [e p rfl]; exact h⟩, fun H b ⟨x, y, z, _, h⟩ e n => by
  rw [show b = p from e, h] at n
  cases n⟩
theorem rw_ixSp {C : Cn} {Q : Cl → Prop} {p : Addr} {i : Int} (hR : C.R = Rsp p) (h0 : 0 ≤ i ∧ i < 3) (q : ∀ n : Int, (i = 1 → 0 ≤ n ∧ n < 4611686018427387904) → Q (.dat (.int n))) : RW C (rIxL C.K) (.raw (.ref p)) (.dat (.int i)) Q := fun G H vx vy w _ hx hy Q' k => by
  cases hy
  have ok := w.ok
  rw [hR] at ok
  obtain ⟨a, b, c, hb, h⟩ := ok
  have e : i = 0 ∨ i = 1 ∨ i = 2 := by omega
  have hx' : vx = .ref p := hx
  rcases e with e | e | e
  · exact ⟨p, _, i, .int a, hx', rfl, SqL.of h, by rw [e]; rfl, k _ (.dat (.int a)) G H (.refl w) (Dp.int _) fr_dat (q a (by omega))⟩
  · exact ⟨p, _, i, .int b, hx', rfl, SqL.of h, by rw [e]; rfl, k _ (.dat (.int b)) G H (.refl w) (Dp.int _) fr_dat (q b fun _ => hb)⟩
  · exact ⟨p, _, i, .int c, hx', rfl, SqL.of h, by rw [e]; rfl, k _ (.dat (.int c)) G H (.refl w) (Dp.int _) fr_dat (q c (by omega))⟩
theorem Go.rgn {R : Rg} {p : Addr} {G H : Hp} (hR : R = Rsp p) (w : Wd R G H) (a b c : Int) (hb : 0 ≤ b ∧ b < 4611686018427387904) : Go R G H G (upd H p (.lst [.int a, .int b, .int c])) := by
  subst hR
  have hg : G p = Option.none := w.out p rfl
  refine ⟨Same.refl G, ⟨fun b' u e => by rw [upd_ne (ne_of_none e hg)]; exact w.ex b' u e, w.out, a, b, c, hb, upd_same⟩, fun b' o e n => ?_, fun _ _ _ n => n⟩
  rw [upd_ne (show b' ≠ p from n)]
  exact e
theorem sw_setSp {C : Cn} {δ : DSl} {te ti : TE} {D : DEnds} {i : Nat} {p : Addr} (hR : C.R = Rsp p) (hi : δ[i]? = some (some (.raw (.ref p)))) (h : EW C te δ fun c => ∃ n : Int, c = .dat (.int n) ∧ EW C ti δ fun c' => ∃ j : Int, c' = .dat (.int j) ∧ (0 ≤ j ∧ j < 3) ∧ (j = 1 → 0 ≤ n ∧ n < 4611686018427387904) ∧ D.nx δ) :
    SW C (tAsg te (gSub (tVar i) ti rSetL)) D δ := fun G H σ e D' k => by
  refine h G H σ e _ fun w c G1 H1 g1 o1 _ ⟨n, e2, h7⟩ => ?_
  subst e2
  cases o1
  have e1 := e.go' g1
  obtain ⟨v, h1, ev⟩ := e1.slot i _ hi
  cases (show v = .ref p from ev)
  refine ⟨_, h1, ?_⟩
  refine h7 G1 H1 σ e1 _ fun w' c' G2 H2 g2 o2 _ ⟨j, e3, hj, hn, q⟩ => ?_
  subst e3
  cases o2
  have ok := g2.wd.ok
  rw [hR] at ok
  obtain ⟨a, b, c, hb, hp⟩ := ok
  have z : j = 0 ∨ j = 1 ∨ j = 2 := by omega
  have fin : ∀ x y u : Int, (0 ≤ y ∧ y < 4611686018427387904) → D'.nx σ (upd H2 p (.lst [.int x, .int y, .int u])) := fun x y u hy =>
    k.nx G2 _ σ δ (g1.ex.trans g2.ex) ((e1.go' g2).go' (Go.rgn hR g2.wd x y u hy)) q
  rcases z with z | z | z
  · exact ⟨p, _, j, 0, rfl, rfl, hp, by rw [z]; rfl, fin _ _ _ hb⟩
  · exact ⟨p, _, j, 1, rfl, rfl, hp, by rw [z]; rfl, fin _ _ _ (hn z)⟩
  · exact ⟨p, _, j, 2, rfl, rfl, hp, by rw [z]; rfl, fin _ _ _ hb⟩
/-- from here on, an own list of three ints is a region (nothing else is own) -/
theorem sw_region {C : Cn} {δ : DSl} {t : TS} {D : DEnds} {i : Nat} {x y z : Int} (hR : C.R = Rg.none) (hy : 0 ≤ y ∧ y < 4611686018427387904) (hi : δ[i]? = some (some (.own [.int x, .int y, .int z]))) (ho : ∀ j c, j ≠ i → δ[j]? = some (some c) → ArgOk c) (hn : ∀ δ', ¬ D.nx δ') (hb : ∀ δ', ¬ D.bk δ') (hct : ∀ δ', ¬ D.ct δ') (hrt : ∀ c, D.rt c → ArgOk c)
    (h : ∀ p G H, SW ⟨C.K, Rsp p, G, H⟩ t D (δ.set i (some (.raw (.ref p))))) : SW C t D δ := fun G H σ e D' k => by
  obtain ⟨v, h1, p, vs, ev, h2, h3, h4, h5, al⟩ := e.slot i _ hi
  subst ev
  have ev : vs = [.int x, .int y, .int z] := by
    have := DpAll.ints (ns := [x, y, z]) al
    exact this
  subst ev
  have hl : i < δ.length := (List.getElem?_eq_some_iff.mp hi).1
  have w : Wd (Rsp p) G H := ⟨e.wd.ex, fun b hb => by rw [show b = p from hb]; exact h3, ⟨x, y, z, hy, h2⟩⟩
  have e2 : En ⟨C.K, Rsp p, G, H⟩ G H σ (δ.set i (some (.raw (.ref p)))) := by
    have at' : ∀ j c, (δ.set i (some (.raw (.ref p))))[j]? = some (some c) → (j = i ∧ c = .raw (.ref p)) ∨ (j ≠ i ∧ δ[j]? = some (some c)) := fun j c q => by
      by_cases hj : i = j
      · subst hj
        rw [List.getElem?_set_self hl] at q
        cases q
        exact .inl ⟨rfl, rfl⟩
      · rw [List.getElem?_set_ne hj] at q
        exact .inr ⟨fun z => hj z.symm, q⟩
    refine ⟨.refl w, w, by rw [List.length_set]; exact e.len, fun j c q => ?_, fun j xs q => ?_, fun j l xs ys a _ q _ _ _ => ?_⟩
    · rcases at' j c q with ⟨ej, ec⟩ | ⟨nj, q⟩
      · subst ej ec
        exact ⟨_, h1, rfl⟩
      · obtain ⟨u, u1, u2⟩ := e.slot j c q
        exact ⟨u, u1, ClOk.swap (C := C) (C' := ⟨C.K, Rsp p, G, H⟩) rfl (ho j c nj q) u2⟩
    · rcases at' j _ q with ⟨_, ec⟩ | ⟨nj, q⟩
      · cases ec
      · exact (ho j _ nj q).elim
    · rcases at' j _ q with ⟨_, ec⟩ | ⟨nj, q⟩
      · cases ec
      · exact (ho j _ nj q).elim
  refine h p G H G H σ e2 D' ⟨fun _ _ _ δ' _ _ q => (hn δ' q).elim, fun G2 H2 v2 c2 g2 o2 ns q => ?_, fun _ _ _ δ' _ _ q => (hb δ' q).elim, fun _ _ _ δ' _ _ q => (hct δ' q).elim⟩
  refine k.rt G2 H2 v2 c2 ?_ (ClOk.swap (C := ⟨C.K, Rsp p, G, H⟩) (C' := C) rfl (hrt c2 q) o2) ns q
  have ge := e.go
  rw [hR] at ge ⊢
  refine ⟨ge.ex.trans g2.ex, ⟨g2.wd.ex, fun _ q => q.elim, trivial⟩, fun b o q _ => g2.keep b o (ge.keep b o q (fun z => z)) (fun z => ?_), fun b o q n => ?_⟩
  · rw [show b = p from z, h5] at q
    cases q
  · exact g2.new b o (ge.keep b o q (fun z => z)) (ge.new b o q n)

end L3

/-! L3f: sorted(set(xs)), xs a list of ints: some new list of ints -/
namespace L3
open PySem PySem.Spec PyProof.Rows L2
abbrev nset (w : World) : Obj := { cls := .type "set", dict := Option.none, data := .set #[] 0 (.fresh 0 0 (!w.params.followText "set-order")) }
section
variable {P : Program} {w : World} {A : Around} {E : Value → Shared → Prop} {s : Shared}
set_option maxHeartbeats 3200000 in
theorem set_fill {l S : Addr} {its : Array Value} {ns : List Int} {R : Result → Shared → Prop} (hh : A.handled = Option.none) (hlS : l < S) (hT : s.TypeIs (.ref S) "set") (hS : s.heap.get? S = some (nset w)) (hl : s.heap.IsList l its) (ii : IntsAre its.toList ns) (hb : ns.length + 1 < scanBound)
    (k : ∀ (h' : Heap) (tk c : Nat), SetR w h' S (fun j => decide (j ∈ ns)) c → c ≤ ns.length → (∀ b o, b ≠ S → s.heap.get? b = some o → h'.get? b = some o) → R (.ok (.ret .none)) { s with heap := h', toks := tk }) :
    wpAny (model P w) A.in1 (Builtin.«set.__init__» ⟨[.ref S, .ref l], []⟩)
      (fun fin s' => match fin with | .done f => R (.ok f) s' | .again c' => c'.quiet = true ∧ codeAny (model P w) A c' R s') (fun e s' => R (.error e) s') s := by
  obtain ⟨⟨kc, kd, kt, ks⟩, h0, h1, nn, h2⟩ := hl
  simp only at h1 h2
  subst h1 h2
  have lst : s.heap.IsList l its := ⟨_, h0, rfl, nn, rfl⟩
  have a1 := F.sub_list_set
  have a2 := F.sub_list_frozenset
  have a3 : (Value.type "list" == Value.type "dict") = false := by decide
  have size : its.size = ns.length := by
    have q := IntsAre.length ii
    rwa [Array.length_toList] at q
  unfold Builtin.«set.__init__» noKeywords Builtin.Frozenset.updateFrom
  generalize hide : pyIter = itr
  wp_walk
  subst hide
  refine wpAny_pyIter_list lst ?_
  refine wpAny_bind (wpAny_runValue ?_)
  have quiet : A.in1.in1.handled = Option.none := by simp [hh]
  have SI : S < s.heap.objs.size := Heap.lt_size hS
  have vals : ∀ (i : Nat) (v : Value), its[i]? = some v → ∃ m t, ns[i]? = some m ∧ v = .int m t := fun i v hv => by
    have hi : i < ns.length := by
      rw [← size]
      exact (Array.getElem?_eq_some_iff.mp hv).1
    obtain ⟨t, e⟩ := PyProof.Rows.IntsAre.int_at ii i v (by rw [Array.getElem?_toList]; exact hv)
    refine ⟨ns[i], t, List.getElem?_eq_getElem hi, ?_⟩
    rw [e, List.getD_eq_getElem?_getD, List.getElem?_eq_getElem hi]
    rfl
  refine set_update_ints (Walks.list quiet s.heap.objs.size l (Nat.ne_of_lt (Nat.lt_trans hlS SI)) its).toS S ?_ ns size hb vals its.size 0 _ rfl (Nat.zero_le _) ?_ ⟨0, Nat.le_refl 0, ?_⟩ ?_
  · intro z
    rcases List.mem_cons.mp z with z | z
    · exact Nat.ne_of_lt SI z
    · exact Nat.ne_of_gt hlS (List.mem_singleton.mp z)
  · exact ⟨⟨_, Heap.get?_push_size _ rfl, rfl, rfl⟩, lst.push _⟩
  · exact setR_new_at (Heap.get?_push_of_some _ hS)
  · intro s' c mv hc q
    rw [size] at hc
    obtain ⟨h', g2, d', tk, os'⟩ := s'
    cases (show g2 = s.gens from mv.gens)
    cases (show d' = s.drawn from mv.drawn)
    cases (show os' = s.os from mv.os)
    show wpAny _ _ _ _ _ _
    refine wpAny_pure ?_
    show wpAny _ _ (ret Value.none) _ _ _
    refine wpAny_pure (k h' tk c q hc fun b o nb e => mv.heap b o (fun z => ?_) (Heap.get?_push_of_some _ e))
    rcases List.mem_cons.mp z with z | z
    · exact nb z
    · have z := List.mem_singleton.mp z
      exact absurd (Heap.lt_size e) (by rw [z]; exact Nat.lt_irrefl _)
set_option maxHeartbeats 3200000 in
theorem set_of_list {l : Addr} {its : Array Value} {ns : List Int} {Q : Value → Shared → Prop} (hh : A.handled = Option.none) (hl : s.heap.IsList l its) (ii : IntsAre its.toList ns) (hb : ns.length + 1 < scanBound)
    (k : ∀ (h' : Heap) (tk c : Nat), SetR w h' s.heap.objs.size (fun j => decide (j ∈ ns)) c → c ≤ ns.length → (∀ b o, s.heap.get? b = some o → h'.get? b = some o) → Q (.ref s.heap.objs.size) { s with heap := h', toks := tk }) :
    wpAny (model P w) A (call (.type "set") [.ref l]) Q E s := by
  obtain ⟨m0, m1, mro⟩ := F.called_set.mro
  have b1 := F.called_set.made
  have b2 := F.called_set.sub
  have ll : l < s.heap.objs.size := by
    obtain ⟨o, e, _⟩ := hl
    exact Heap.lt_size e
  refine wpAny_call (codeAny_of_tree ?_)
  show wpAny _ _ (callAny (.type "set") _) _ _ _
  refine wpAny_pure ⟨Code.quiet_builtin _ (by decide +kernel), codeAny_builtin F.entry_type_call ?_⟩
  rw [Around.under_plain (weight_type_call_type "set" [.ref l] []) rfl]
  have b3 := F.called_set.notType
  have b4 := F.called_set.canCreate
  have b5 := F.typeCall_set_1 (.ref l)
  repeat (any_goals (first | assumption | wp_step))
  refine codeAny_mono (code_set_led1 (.ref l) (E := E) (Q₁ := fun v t => v = .ref s.heap.objs.size ∧ t = { s with heap := s.heap.push (nset w) }) ⟨rfl, rfl⟩) fun r t hr => ?_
  cases r with
  | error e => exact hr
  | ok fl =>
    cases fl with
    | ret v =>
      obtain ⟨rfl, rfl⟩ := hr
      have new : (s.heap.push (nset w)).get? s.heap.objs.size = some (nset w) := Heap.get?_push_size _ rfl
      have ty : Shared.TypeIs { s with heap := s.heap.push (nset w) } (.ref s.heap.objs.size) "set" := ⟨_, new, rfl⟩
      have b6 := F.called_set.init.lookup
      have b7 := F.called_set.init.bind (.ref s.heap.objs.size)
      repeat (any_goals (first | assumption | wp_step))
      refine codeAny_mono (codeAny_call_builtin (R := wants (fun u t => u = .none ∧ Q (.ref s.heap.objs.size) t) E) F.called_set.init.plain F.entry_set_init (check_set_init_1 ty ?_)) fun u t hu => ?_
      · exact set_fill (A := A.in1) (R := wants (fun u t => u = Value.none ∧ Q (.ref s.heap.objs.size) t) E) (s := { s with heap := s.heap.push (nset w) }) (by simpa using hh) ll ty new (hl.push _) ii hb fun h' tk c q hc kp => ⟨rfl, k h' tk c q hc fun b o e => kp b o (Nat.ne_of_lt (Heap.lt_size e)) (Heap.get?_push_of_some _ e)⟩
      cases u with
      | error e => exact hu
      | ok f2 =>
        cases f2 with
        | ret u =>
          obtain ⟨rfl, q⟩ := hu
          repeat (any_goals (first | assumption | wp_step))
        | _ => exact hu.elim
    | _ => exact hr.elim
theorem sorted_of_set {a : Addr} {S : Int → Bool} {n : Nat} {Q : Value → Shared → Prop} (R : SetR w s.heap a S n) (hh : A.handled = Option.none) (hn : n ≤ sizeLine)
    (k : ∀ s' p (out : Array Value) (c : Nat) (ns : List Int), (∀ b o, s.heap.get? b = some o → s'.heap.get? b = some o) → s'.gens = s.gens → s'.os = s.os → s.heap.objs.size ≤ p → s'.heap.get? p = some (seqObj "list" out c) → IntsAre out.toList ns → ns.length = n → Q (.ref p) s') :
    wpAny (model P w) A (call (.builtin "sorted") [.ref a]) Q E s := by
  obtain ⟨o, es, ep, t, ho, hex, hd, good, _, _, hb, hf, hes, hr, hl⟩ := R
  refine Calls.call_function_entry kind_sorted plain_sorted entry_sorted (args_sorted1 _) ?_
  unfold Builtin.«sorted»
  refine wpAny_bind (m := checkCount "sorted" 1 1 _) (wpAny_pure ?_)
  refine wpAny_bind (collect_set (A := A.in1) hh ⟨o, ho, hex.1, hd⟩ hf hb hr hl fun t1 vs k1 hz g1 o1 pm => ?_)
  have len : vs.length = n := by
    rw [pm.length_eq, List.length_map, Array.length_toList]
    exact hes
  have II : IntsAre vs (vs.map Builtin.Re.reRawOf) := ints_of vs fun v hv => by
    obtain ⟨e, he, q⟩ := List.mem_map.mp (pm.mem_iff.mp hv)
    obtain ⟨m, tk, h1, _⟩ := good e he
    exact ⟨m, tk, by rw [← q]; exact h1⟩
  refine wpAny_bind (wpAny_newList ?_ (by rw [len]; exact hn))
  have at0 : (t1.heap.push (seqObj "list" vs.toArray 0)).get? t1.heap.objs.size = some (seqObj "list" vs.toArray 0) := Heap.get?_push_size _ rfl
  refine wpAny_bind (wpAny_holding (wpAny_call_entry slot_list_sort ⟨_, at0, rfl⟩ entry_list_sort (SrtO.list_sort_ord SrtO.swo_int at0 (by rw [len]; exact hn) (fun h2 => SrtO.ints_sortable II h2) fun out q1 q2 => ⟨_, rfl, ?_⟩) (args_list_sort _)))
  obtain ⟨c, hc⟩ := sortedHeap_at (vs := vs) (out := out.toArray) at0
  obtain ⟨i1, i2, _⟩ := SrtO.ints_out II q1 q2
  refine wpAny_pure ⟨_, rfl, k _ t1.heap.objs.size out.toArray c (out.map SrtO.iv) (fun b u e => ?_) g1 o1 hz hc (by simpa using i1) (by rw [i2.length_eq, List.length_map, len])⟩
  have q := k1 b u e
  have lt := Heap.lt_size q
  show (sortedHeap (t1.heap.push (seqObj "list" vs.toArray 0)) t1.heap.objs.size vs out.toArray).get? b = some u
  rw [sortedHeap_old (Nat.ne_of_lt lt) (by rw [size_push']; exact Nat.lt_succ_of_lt lt)]
  exact Heap.get?_push_of_some _ q
end
/-- set(xs), sorted(found) -/
def rSetL (K : PySem.W.Frag) (w : World) : List V → Hp → VK → Prop := fun xs H Q => ∃ (l : Addr) (ns : List Int), xs = [V.ref l] ∧ SqL K H l (ns.map V.int) ∧ ns.length + 1 < scanBound ∧ ∀ p S n, H p = Option.none → n ≤ ns.length → Q (.ref p) (upd H p (SetO w p S n))
def rSortS (w : World) : List V → Hp → VK → Prop := fun vs H Q => ∃ (a : Addr) (S : Int → Bool) (n : Nat), vs = [V.ref a] ∧ H a = some (SetO w a S n) ∧ n ≤ sizeLine ∧ ∀ (ns : List Int) (p : Addr), ns.length = n → H p = Option.none → Q (.ref p) (upd H p (.lst (ns.map V.int)))
section
variable {X : Cx}
theorem c_setL (hc : X.calm = true) : CallR X (.type "set") (rSetL X.K X.w) := by
  intro pins s σ H xs us Q I r h
  obtain ⟨l, ns, rfl, hq, hb, q⟩ := h
  rw [Vals.ref1 r]
  obtain ⟨its, r', pl, hz⟩ := I.list hq
  refine set_of_list (I.ok.hd hc) pl.isList (by simpa using r'.ints) hb fun h' tk c R hn kp => ?_
  have hf : H s.heap.objs.size = Option.none := I.hok.fresh (Nat.le_refl _)
  exact ⟨.ref _, upd H s.heap.objs.size (SetO X.w s.heap.objs.size _ c), I.laid (t' := tk) (fun b u e => kp b u e) (Nat.le_refl _) (setO_new R), rfl, q _ _ c hf hn⟩
theorem c_sortS (hc : X.calm = true) : CallR X (.builtin "sorted") (rSortS X.w) := by
  intro pins s σ H vs us Q I r h
  obtain ⟨a, S, n, rfl, ha, hn, q⟩ := h
  have R := setO_get I ha
  rw [Vals.ref1 r]
  refine sorted_of_set R (I.ok.hd hc) hn fun s' p out c ns kp g o hp hg hi hl => ?_
  have len : (ns.map V.int).length ≤ sizeLine := by rw [List.length_map, hl]; exact hn
  have hf : H p = Option.none := I.hok.fresh hp
  have J : Inv X pins σ (upd H p (.lst (ns.map V.int))) { s with heap := s'.heap, gens := s'.gens, drawn := s'.drawn, toks := s'.toks } :=
    I.call (ch := []) (Un.laid kp hp hf) (I.hok.laid kp hp ⟨len, out.toList, c, vals_of_ints hi, hg⟩) (by rw [g]; exact I.bare) (fun _ z => nomatch z)
  have e : s' = { s with heap := s'.heap, gens := s'.gens, drawn := s'.drawn, toks := s'.toks } := by
    cases s'
    cases s
    cases o
    rfl
  rw [e]
  exact ⟨.ref p, _, J, rfl, q ns p hl hf⟩
end
/-- sorted(set(xs)) over data: some list of ints, no longer than xs -/
theorem ew_sortedSet {C : Cn} {δ : DSl} {w : World} {te : TE} {Q : Cl → Prop} (h : EW C te δ fun c => ∃ ns : List Int, IsLs c (ns.map .int) ∧ ns.length ≤ 4000 ∧ ∀ ms : List Int, ms.length ≤ ns.length → Q (.own (ms.map .int))) :
    EW C (tCB (rSortS w) (tCons (tCB (rSetL C.K w) (tCons te tNil)) tNil)) δ Q := fun G H σ e Q' k =>
  h G H σ e _ fun v c G1 H1 g1 o1 _ ⟨ns, i, hz, q⟩ => by
    obtain ⟨a, vs, rfl, s, al⟩ := i.sq g1.wd o1
    rw [al.ints] at s
    refine ⟨a, ns, rfl, s, by unfold scanBound; omega, fun p S n hp hn => ?_⟩
    have gp := Go.lay g1.wd hp (SetO w p S n)
    refine ⟨p, S, n, rfl, upd_same, by rw [sizeLine_eq]; omega, fun ms l hl hlf => ?_⟩
    have gl := Go.lay gp.wd hlf (.lst (ms.map V.int))
    have g12 := g1.trans gp
    obtain ⟨hl0, hlr⟩ := g12.back e.wd hlf
    refine k _ (.own (ms.map .int)) G1 _ (g12.trans gl) ⟨l, _, rfl, upd_same, (gp.wd.fresh hlf).1, hlr, ((e.go.trans g12).back e.w0 hlf).1, DpAll.ofInts ms⟩ (fun ys b _ z => ?_) (q ms (by omega))
    cases z
    exact hl0
end L3

/-! L3g: list(zip(a, b, c)): the tuples that zip gives out are kept -/
namespace L3
open PySem PySem.Spec PyProof.Rows L2
theorem zip_has_no_len : typeLookup (.type "zip") "__len__" = pure Option.none := am_miss_of_fast (by decide +kernel)
theorem zip_has_no_hint : typeLookup (.type "zip") "__length_hint__" = pure Option.none := am_miss_of_fast (by decide +kernel)
theorem ne_lo {b N T : Nat} (h1 : b < N) (h2 : N ≤ T) : T ≠ b := Nat.ne_of_gt (Nat.lt_of_lt_of_le h1 h2)
def ZH (h : Heap) (z TI TO : Addr) : Prop :=
  (IsZip h z TI TO .none ∧ ∃ a1 a2 a3, IsTupOf3 h TO a1 a2 a3) ∨ ∃ T f oT, IsZipHeld h z TI TO T f ∧ h.get? T = some oT ∧ T ≠ z
section
variable {prog : Program} {w : World} {A : Around} {E : Value → Shared → Prop} {s : Shared} {z TI TO i1 i2 i3 : Addr} {fp1 fp2 fp3 : List Addr} {n i : Nat} {P1 P2 P3 : Nat → Value → Prop} {St1 St2 St3 : Nat → Heap → Prop}
theorem z3_held {Q : Value → Shared → Prop} {T : Addr} {f : Bool} {oT : Obj} (S : ZipSep3 z TI TO i1 i2 i3 fp1 fp2 fp3) (D1 : Draws prog w A i1 fp1 n P1 St1) (D2 : Draws prog w A i2 fp2 n P2 St2) (D3 : Draws prog w A i3 fp3 n P3 St3)
    (hz : IsZipHeld s.heap z TI TO T f) (hT : s.heap.get? T = some oT) (hTI : IsTupOf3 s.heap TI (.ref i1) (.ref i2) (.ref i3)) (st1 : St1 i s.heap) (st2 : St2 i s.heap) (st3 : St3 i s.heap) (lt : i < n)
    (hQ : ∀ x1 x2 x3 h' tk, P1 i x1 → P2 i x2 → P3 i x3 → IsZipHeld h' z TI TO T true → St1 (i + 1) h' → St2 (i + 1) h' → St3 (i + 1) h' → IsTupOf3 h' s.heap.objs.size x1 x2 x3 → (∀ c o, c ≠ z → c ≠ i1 → c ≠ i2 → c ≠ i3 → s.heap.get? c = some o → h'.get? c = some o) → Q (.ref s.heap.objs.size) { s with heap := h', toks := tk }) :
    wpAny (model prog w) A (Builtin.«zip.__next__» ⟨[.ref z], []⟩) (fun fin s' => ∃ v, fin = .done (.ret v) ∧ Q v s') E s := by
  obtain ⟨hp, gs, dr, t0, os⟩ := s
  show wpAny _ _ (field (.ref z) 2 >>= _) _ _ _
  refine wpAny_bind (wpAny_field hz rfl (x := .bool false) rfl ?_)
  show wpAny _ _ (field (.ref z) 3 >>= _) _ _ _
  refine wpAny_bind (wpAny_field hz rfl (x := .ref TI) rfl ?_)
  refine wpAny_bind (wpAny_seqItems hTI rfl ?_)
  show wpAny _ _ (Builtin.SmallTypes.ownedTupleIsFree (.ref z) >>= _) _ _ _
  refine wpAny_bind (wpAny_tupleHeld_zip hz hT fun q0 hz0 e0 => ?_)
  replace e0 : Heap.SameBut z hp q0 := e0
  simp only [Bool.false_eq_true, if_false]
  refine wpAny_bind ?_
  rw [← Array.forIn_toList]
  simp only [List.forIn_cons, List.forIn_nil]
  refine wpAny_bind (wpAny_bind (wpAny_holding ?_))
  show wpAny _ _ (Builtin.SmallTypes.nextOf (.ref i1) >>= _) _ _ ⟨q0, gs, dr, t0, os⟩
  refine wpAny_bind (D1.item i _ _ _ lt (D1.over st1 e0 S.zf1) fun x1 q1 t1 y1 m1 e1 => wpAny_pure (wpAny_pure ?_))
  replace e1 : Heap.SameBut i1 q0 q1 := e1
  refine wpAny_bind (wpAny_bind (wpAny_holding ?_))
  show wpAny _ _ (Builtin.SmallTypes.nextOf (.ref i2) >>= _) _ _ ⟨q1, gs, dr, t1, os⟩
  refine wpAny_bind (D2.item i _ _ _ lt (D2.over (D2.over st2 e0 S.zf2) e1 S.sep1_2) fun x2 q2 t2 y2 m2 e2 => wpAny_pure (wpAny_pure ?_))
  replace e2 : Heap.SameBut i2 q1 q2 := e2
  refine wpAny_bind (wpAny_bind (wpAny_holding ?_))
  show wpAny _ _ (Builtin.SmallTypes.nextOf (.ref i3) >>= _) _ _ ⟨q2, gs, dr, t2, os⟩
  refine wpAny_bind (D3.item i _ _ _ lt (D3.over (D3.over (D3.over st3 e0 S.zf3) e1 S.sep1_3) e2 S.sep2_3) fun x3 q3 t3 y3 m3 e3 => wpAny_pure (wpAny_pure (wpAny_pure ?_)))
  replace e3 : Heap.SameBut i3 q2 q3 := e3
  show wpAny _ _ (newTuple [x1, x2, x3] >>= _) _ _ ⟨q3, gs, dr, t3, os⟩
  refine wpAny_bind (wpAny_newTuple ?_)
  have size : q3.objs.size = hp.objs.size := by rw [e3.1, e2.1, e1.1, e0.1]
  have zz : IsZipHeld q3 z TI TO T true := e3.extBut _ _ S.zi3 (e2.extBut _ _ S.zi2 (e1.extBut _ _ S.zi1 hz0))
  have keep : ∀ c o, c ≠ z → c ≠ i1 → c ≠ i2 → c ≠ i3 → hp.get? c = some o → q3.get? c = some o := fun c o c1 c2 c3 c4 e => e3.extBut _ _ c4 (e2.extBut _ _ c3 (e1.extBut _ _ c2 (e0.extBut _ _ c1 e)))
  have r1 : St1 (i + 1) q3 := D1.over (D1.over m1 e2 S.sep2_1) e3 S.sep3_1
  have r2 : St2 (i + 1) q3 := D2.over m2 e3 S.sep3_2
  refine wpAny_pure ⟨_, rfl, ?_⟩
  show Q (.ref q3.objs.size) _
  have tup : IsTupOf3 (q3.push { cls := .type "tuple", data := .seq #[x1, x2, x3] }) q3.objs.size x1 x2 x3 := Heap.get?_push_size _ rfl
  rw [size] at tup ⊢
  have up : ∀ {fp : List Addr} (b : Addr), b ∈ fp → ∀ o, q3.get? b = some o → (q3.push { cls := .type "tuple", data := .seq #[x1, x2, x3] }).get? b = some o := fun b _ o e => Heap.get?_push_of_some _ e
  exact hQ x1 x2 x3 _ t3 y1 y2 y3 (Heap.get?_push_of_some _ zz) (D1.frame _ _ _ r1 up) (D2.frame _ _ _ r2 up) (D3.frame _ _ _ m3 up) tup fun c o c1 c2 c3 c4 e => Heap.get?_push_of_some _ (keep c o c1 c2 c3 c4 e)
theorem z3_held_end {Q : Fin → Shared → Prop} {T : Addr} {f : Bool} {oT : Obj} (S : ZipSep3 z TI TO i1 i2 i3 fp1 fp2 fp3) (D1 : Draws prog w A i1 fp1 n P1 St1)
    (hz : IsZipHeld s.heap z TI TO T f) (hT : s.heap.get? T = some oT) (hTI : IsTupOf3 s.heap TI (.ref i1) (.ref i2) (.ref i3)) (st1 : St1 n s.heap)
    (hE : ∀ h' e, (∀ c o, c ≠ z → c ≠ i1 → s.heap.get? c = some o → h'.get? c = some o) → (∃ o, h'.get? e = some o ∧ o.cls = .type "StopIteration") → E (.ref e) { s with heap := h' }) :
    wpAny (model prog w) A (Builtin.«zip.__next__» ⟨[.ref z], []⟩) Q E s := by
  obtain ⟨hp, gs, dr, t0, os⟩ := s
  show wpAny _ _ (field (.ref z) 2 >>= _) _ _ _
  refine wpAny_bind (wpAny_field hz rfl (x := .bool false) rfl ?_)
  show wpAny _ _ (field (.ref z) 3 >>= _) _ _ _
  refine wpAny_bind (wpAny_field hz rfl (x := .ref TI) rfl ?_)
  refine wpAny_bind (wpAny_seqItems hTI rfl ?_)
  show wpAny _ _ (Builtin.SmallTypes.ownedTupleIsFree (.ref z) >>= _) _ _ _
  refine wpAny_bind (wpAny_tupleHeld_zip hz hT fun q0 hz0 e0 => ?_)
  replace e0 : Heap.SameBut z hp q0 := e0
  simp only [Bool.false_eq_true, if_false]
  refine wpAny_bind ?_
  rw [← Array.forIn_toList]
  simp only [List.forIn_cons, List.forIn_nil]
  refine wpAny_bind (wpAny_bind (wpAny_holding ?_))
  show wpAny _ _ (Builtin.SmallTypes.nextOf (.ref i1) >>= _) _ _ ⟨q0, gs, dr, t0, os⟩
  exact wpAny_bind (D1.done ⟨q0, gs, dr, t0, os⟩ _ _ (D1.over st1 e0 S.zf1) fun q1 e x1 he => hE q1 e (fun c o c1 c2 x => x1 _ _ c2 (e0.extBut _ _ c1 x)) he)
theorem z3_step {Q : Option Value → Shared → Prop} (S : ZipSep3 z TI TO i1 i2 i3 fp1 fp2 fp3) (D1 : Draws prog w A.in1 i1 fp1 n P1 St1) (D2 : Draws prog w A.in1 i2 fp2 n P2 St2) (D3 : Draws prog w A.in1 i3 fp3 n P3 St3)
    (hz : ZH s.heap z TI TO) (hTI : IsTupOf3 s.heap TI (.ref i1) (.ref i2) (.ref i3)) (st1 : St1 i s.heap) (st2 : St2 i s.heap) (st3 : St3 i s.heap) (lt : i < n)
    (hQ : ∀ T x1 x2 x3 h' tk, P1 i x1 → P2 i x2 → P3 i x3 → (∃ U f oT, IsZipHeld h' z TI TO U f ∧ h'.get? U = some oT ∧ U ≠ z) → St1 (i + 1) h' → St2 (i + 1) h' → St3 (i + 1) h' → IsTupOf3 h' T x1 x2 x3 → s.heap.objs.size ≤ T → (∀ c o, c ≠ z → c ≠ TO → c ≠ i1 → c ≠ i2 → c ≠ i3 → s.heap.get? c = some o → h'.get? c = some o) → Q (some (.ref T)) { s with heap := h', toks := tk }) :
    wpAny (model prog w) A (pyNext (.ref z)) Q E s := by
  rcases hz with ⟨hz, a1, a2, a3, hTO⟩ | ⟨U, f, oT, hz, hU, hUz⟩
  · refine wpAny_pyNext_zipD3_item S D1 D2 D3 hz hTI hTO st1 st2 st3 lt lt lt fun x1 x2 x3 h' tk y1 y2 y3 zn _ r1 r2 r3 tup _ kp => hQ s.heap.objs.size x1 x2 x3 h' tk y1 y2 y3 ⟨s.heap.objs.size, false, _, zn, tup, Nat.ne_of_gt (Heap.lt_size hz)⟩ r1 r2 r3 tup (Nat.le_refl _) kp
  · have ty : s.TypeIs (.ref z) "zip" := ⟨_, hz, rfl⟩
    have ne : ∀ {c o}, s.heap.get? c = some o → s.heap.objs.size ≠ c := fun e => Nat.ne_of_gt (Heap.lt_size e)
    unfold pyNext
    exact wpAny_bind (wpAny_attempt (wpAny_callSpecial?_slot (name := Str.ofString "__next__") ty F.slot_zip_next
      (wpAny_call_entry F.slot_zip_next ty F.entry_zip_next
        (z3_held S D1 D2 D3 hz hU hTI st1 st2 st3 lt fun x1 x2 x3 h' tk y1 y2 y3 zn r1 r2 r3 tup kp => wpAny_pure (hQ s.heap.objs.size x1 x2 x3 h' tk y1 y2 y3 (by
          by_cases hu1 : U = i1
          · obtain ⟨o, e⟩ := D1.live _ _ r1
            exact ⟨U, true, o, zn, by rw [hu1]; exact e, hUz⟩
          · by_cases hu2 : U = i2
            · obtain ⟨o, e⟩ := D2.live _ _ r2
              exact ⟨U, true, o, zn, by rw [hu2]; exact e, hUz⟩
            · by_cases hu3 : U = i3
              · obtain ⟨o, e⟩ := D3.live _ _ r3
                exact ⟨U, true, o, zn, by rw [hu3]; exact e, hUz⟩
              · exact ⟨U, true, oT, zn, kp U oT hUz hu1 hu2 hu3 hU, hUz⟩) r1 r2 r3 tup (Nat.le_refl _) fun c o c1 _ c2 c3 c4 e => kp c o c1 c2 c3 c4 e)) (F.args_zip_next_1 _))))
theorem z3_stop {Q : Option Value → Shared → Prop} (S : ZipSep3 z TI TO i1 i2 i3 fp1 fp2 fp3) (D1 : Draws prog w A.in1 i1 fp1 n P1 St1)
    (hz : ∃ U f oT, IsZipHeld s.heap z TI TO U f ∧ s.heap.get? U = some oT ∧ U ≠ z) (hTI : IsTupOf3 s.heap TI (.ref i1) (.ref i2) (.ref i3)) (st1 : St1 n s.heap)
    (hQ : ∀ h', (∀ c o, c ≠ z → c ≠ i1 → s.heap.get? c = some o → h'.get? c = some o) → Q Option.none { s with heap := h' }) :
    wpAny (model prog w) A (pyNext (.ref z)) Q E s := by
  obtain ⟨U, f, oT, hz, hU, _⟩ := hz
  have ty : s.TypeIs (.ref z) "zip" := ⟨_, hz, rfl⟩
  unfold pyNext
  refine wpAny_bind (wpAny_attempt (wpAny_callSpecial?_slot (name := Str.ofString "__next__") ty F.slot_zip_next
    (wpAny_call_entry F.slot_zip_next ty F.entry_zip_next (z3_held_end S D1 hz hU hTI st1 fun h' e kp he => ?_) (F.args_zip_next_1 _))))
  obtain ⟨o, ho, hc⟩ := he
  exact wpAny_bind (wpAny_isInstance (T := "StopIteration") (b := true) ⟨o, ho, hc⟩ isSubtype_stop (wpAny_pure (hQ _ kp)))
end
/-- what the list holds so far: new tuples of three -/
def Held3 (P1 P2 P3 : Nat → Value → Prop) (N : Nat) (h : Heap) (acc : List Value) : Prop :=
  ∀ (j : Nat) (v : Value), acc[j]? = some v → ∃ (T : Addr) (x1 x2 x3 : Value), v = .ref T ∧ N ≤ T ∧ P1 j x1 ∧ P2 j x2 ∧ P3 j x3 ∧ IsTupOf3 h T x1 x2 x3
section
variable {prog : Program} {w : World} {A : Around} {z TI TO i1 i2 i3 L N : Addr} {fp1 fp2 fp3 : List Addr} {n : Nat} {P1 P2 P3 : Nat → Value → Prop} {St1 St2 St3 : Nat → Heap → Prop} {R : Result → Shared → Prop}
theorem z3_loop (S : ZipSep3 z TI TO i1 i2 i3 fp1 fp2 fp3) (D1 : Draws prog w A.in1.in1 i1 fp1 n P1 St1) (D2 : Draws prog w A.in1.in1 i2 fp2 n P2 St2) (D3 : Draws prog w A.in1.in1 i3 fp3 n P3 St3) (hn : n < sizeLine) (pos : 0 < n)
    (lz : L ∉ [z, TI, TO, i1, i2, i3]) (lf : L ∉ fp1 ∧ L ∉ fp2 ∧ L ∉ fp3) (bd : ∀ b ∈ [z, TI, TO, i1, i2, i3, L], b < N) (res : Value) :
    ∀ (k i : Nat) (s : Shared) (acc : List Value) (c : Nat), n - i = k → i ≤ n → N ≤ s.heap.objs.size → St1 i s.heap → St2 i s.heap → St3 i s.heap → IsTupOf3 s.heap TI (.ref i1) (.ref i2) (.ref i3) → ZH s.heap z TI TO → (i ≠ 0 → ∃ U f oT, IsZipHeld s.heap z TI TO U f ∧ s.heap.get? U = some oT ∧ U ≠ z) →
      s.heap.get? L = some { cls := .type "list", data := .seq acc.toArray c } → acc.length = i → Held3 P1 P2 P3 N s.heap acc →
      (∀ h' tk acc' c', (∀ b o, b ∉ [L, z, TO, i1, i2, i3] → s.heap.get? b = some o → h'.get? b = some o) → h'.get? L = some { cls := .type "list", data := .seq (List.toArray acc') c' } → acc'.length = n → Held3 P1 P2 P3 N h' acc' → R (.ok (.ret res)) { s with heap := h', toks := tk }) →
      codeAny (model prog w) A (.builtin "list.extend.loop" ⟨[.ref L, .ref z, res], []⟩) R s := by
  have mem : L ≠ z ∧ L ≠ TI ∧ L ≠ TO ∧ L ≠ i1 ∧ L ≠ i2 ∧ L ≠ i3 := by simpa using lz
  obtain ⟨Lz, LTI, LTO, L1, L2, L3⟩ := mem
  have bz := bd z (by simp)
  have bTO := bd TO (by simp)
  have b1 := bd i1 (by simp)
  have b2 := bd i2 (by simp)
  have b3 := bd i3 (by simp)
  have bL := bd L (by simp)
  intro k
  induction k with
  | zero =>
    intro i s acc c hk hi hN s1 s2 s3 hTI hz hd hL hl held hR
    have e : i = n := by omega
    subst e
    refine codeAny_builtin F.entry_extend_loop ?_
    rw [Around.under_plainId F.plain_extend_loop _]
    show wpAny _ A.in1 (pyNext (.ref z) >>= _) _ _ s
    refine wpAny_bind (z3_stop S D1 (hd (by omega)) hTI s1 fun h' kp => wpAny_pure (hR h' s.toks acc c (fun b o hb q => kp b o (fun y => hb (by simp [y])) (fun y => hb (by simp [y])) q) (kp L _ Lz L1 hL) hl fun j v hj => ?_))
    obtain ⟨T, x1, x2, x3, ev, hT, y1, y2, y3, tup⟩ := held j v hj
    exact ⟨T, x1, x2, x3, ev, hT, y1, y2, y3, kp T _ (ne_lo bz hT) (ne_lo b1 hT) tup⟩
  | succ k ih =>
    intro i s acc c hk hi hN s1 s2 s3 hTI hz hd hL hl held hR
    refine codeAny_builtin F.entry_extend_loop ?_
    rw [Around.under_plainId F.plain_extend_loop _]
    show wpAny _ A.in1 (pyNext (.ref z) >>= _) _ _ s
    refine wpAny_bind (z3_step S D1 D2 D3 hz hTI s1 s2 s3 (show i < n by omega) fun T x1 x2 x3 h' tk y1 y2 y3 zn r1 r2 r3 tup hT kp => ?_)
    have hL' := kp L _ Lz LTO L1 L2 L3 hL
    show wpAny _ A.in1 (updateSeq L (·.push (.ref T)) >>= _) _ _ _
    refine wpAny_bind ?_
    have upd' : ∀ b o, b ≠ L → h'.get? b = some o → (h'.update L (Obj.mapSeq (·.push (Value.ref T)))).get? b = some o := fun b o hb q => (Heap.get?_update_other _ _ (Ne.symm hb)).trans q
    have sz : h'.objs.size ≥ s.heap.objs.size + 1 := Nat.lt_of_le_of_lt hT (Heap.lt_size tup)
    have fr : ∀ {fp : List Addr}, L ∉ fp → ∀ b ∈ fp, ∀ o, h'.get? b = some o → (h'.update L (Obj.mapSeq (·.push (Value.ref T)))).get? b = some o := fun hf b hb o q => upd' b o (fun y => hf (y ▸ hb)) q
    obtain ⟨U, f, oT, q1, q2, q3⟩ := zn
    have zn' : ∃ U f oT, IsZipHeld (h'.update L (Obj.mapSeq (·.push (Value.ref T)))) z TI TO U f ∧ (h'.update L (Obj.mapSeq (·.push (Value.ref T)))).get? U = some oT ∧ U ≠ z := by
      have qz := upd' z _ (Ne.symm Lz) q1
      by_cases hU : U = L
      · exact ⟨U, f, _, qz, by rw [hU]; exact Heap.get?_update_self _ hL' rfl, q3⟩
      · exact ⟨U, f, oT, qz, upd' U _ hU q2, q3⟩
    refine wpAny_updateSeq hL' rfl (wpAny_pure ⟨plainId_quiet F.plain_extend_loop _, ih (i + 1) ⟨h'.update L (Obj.mapSeq (·.push (Value.ref T))), s.gens, s.drawn, tk, s.os⟩ (acc ++ [.ref T]) (c + 1) (by omega) (by omega) (by rw [Heap.size_update]; exact Nat.le_trans hN (Nat.le_of_succ_le sz)) (D1.frame _ _ _ r1 (fr lf.1)) (D2.frame _ _ _ r2 (fr lf.2.1)) (D3.frame _ _ _ r3 (fr lf.2.2)) (upd' TI _ (Ne.symm LTI) (kp TI _ S.TIz S.TITO S.TIi1 S.TIi2 S.TIi3 hTI)) (.inr zn') (fun _ => zn') ?_ (by rw [List.length_append, hl]; rfl) ?_ ?_⟩) (by rw [List.size_toArray, hl]; omega) (by show (acc.toArray.push (Value.ref T)).size ≤ sizeLine + 1; rw [Array.size_push, List.size_toArray, hl]; omega)
    · have q := Heap.get?_update_self (Obj.mapSeq (·.push (Value.ref T))) hL' rfl
      simpa [Obj.mapSeq] using q
    · intro j v hj
      by_cases hji : j < acc.length
      · rw [List.getElem?_append_left hji] at hj
        obtain ⟨T', u1, u2, u3, ev, hT', v1, v2, v3, tup'⟩ := held j v hj
        exact ⟨T', u1, u2, u3, ev, hT', v1, v2, v3, upd' T' _ (ne_lo bL hT') (kp T' _ (ne_lo bz hT') (ne_lo bTO hT') (ne_lo b1 hT') (ne_lo b2 hT') (ne_lo b3 hT') tup')⟩
      · rw [List.getElem?_append_right (by omega)] at hj
        have j0 : j - acc.length = 0 := by
          rcases Nat.eq_zero_or_pos (j - acc.length) with y | y
          · exact y
          · rw [List.getElem?_eq_none (by simp; omega)] at hj
            cases hj
        rw [j0] at hj
        cases hj
        have ji : j = i := by omega
        subst ji
        exact ⟨T, x1, x2, x3, rfl, Nat.le_trans hN hT, y1, y2, y3, upd' T _ (ne_lo bL (Nat.le_trans hN hT)) tup⟩
    · intro h2 tk2 acc2 c2 kp2 l2 n2 held2
      refine hR h2 tk2 acc2 c2 (fun b o hb q => kp2 b o hb (upd' b o (fun y => hb (by simp [y])) (kp b o (fun y => hb (by simp [y])) (fun y => hb (by simp [y])) (fun y => hb (by simp [y])) (fun y => hb (by simp [y])) (fun y => hb (by simp [y])) q))) l2 n2 held2
end
section
variable {P : Program} {w : World} {A : Around} {E : Value → Shared → Prop} {s : Shared}
/-- list(z), z a zip of three that is new -/
theorem list_of_zip3 {z TI TO i1 i2 i3 : Addr} {fp1 fp2 fp3 : List Addr} {n : Nat} {P1 P2 P3 : Nat → Value → Prop} {St1 St2 St3 : Nat → Heap → Prop} {Q : Value → Shared → Prop} (S : ZipSep3 z TI TO i1 i2 i3 fp1 fp2 fp3)
    (D1 : ∀ A : Around, A.handled = Option.none → Draws P w A i1 fp1 n P1 St1) (D2 : ∀ A : Around, A.handled = Option.none → Draws P w A i2 fp2 n P2 St2) (D3 : ∀ A : Around, A.handled = Option.none → Draws P w A i3 fp3 n P3 St3) (hh : A.handled = Option.none) (hn : n < sizeLine) (pos : 0 < n)
    (low : ∀ b ∈ z :: TI :: TO :: i1 :: i2 :: i3 :: (fp1 ++ fp2 ++ fp3), b < s.heap.objs.size) (hz : IsZip s.heap z TI TO .none) (hTI : IsTupOf3 s.heap TI (.ref i1) (.ref i2) (.ref i3)) (hTO : IsTupOf3 s.heap TO .none .none .none) (s1 : St1 0 s.heap) (s2 : St2 0 s.heap) (s3 : St3 0 s.heap)
    (hQ : ∀ h' tk (acc : List Value) c, (∀ b o, b ∉ [z, TO, i1, i2, i3] → s.heap.get? b = some o → h'.get? b = some o) → h'.get? s.heap.objs.size = some { cls := .type "list", data := .seq acc.toArray c } → acc.length = n → Held3 P1 P2 P3 (s.heap.objs.size + 1) h' acc → Q (.ref s.heap.objs.size) { s with heap := h', toks := tk }) :
    wpAny (model P w) A (call (.type "list") [.ref z]) Q E s := by
  refine callType_codes (Q₁ := fun v t => v = .ref s.heap.objs.size ∧ t = { s with heap := s.heap.push { cls := .type "list", data := .seq #[] } }) PySem.F.called_list (PySem.F.typeCall_list_1 _) PySem.F.entry_list_init (code_list_new _ ⟨rfl, rfl⟩) fun v t ht => ?_
  obtain ⟨rfl, rfl⟩ := ht
  have new : (s.heap.push { cls := .type "list", data := .seq #[] }).get? s.heap.objs.size = some { cls := .type "list", data := .seq #[] } := Heap.get?_push_size _ rfl
  refine ⟨⟨_, new, rfl⟩, PySem.F.args_list_init_2 _ _, ?_⟩
  have lt : ∀ b ∈ z :: TI :: TO :: i1 :: i2 :: i3 :: (fp1 ++ fp2 ++ fp3), b ≠ s.heap.objs.size := fun b hb => Nat.ne_of_lt (low b hb)
  have nz : s.heap.objs.size ≠ z := Ne.symm (lt z (by simp))
  -- the state at which the loop begins
  have go : ∀ (h₁ : Heap) (c tk : Nat), (∀ b o, b ≠ s.heap.objs.size → s.heap.get? b = some o → h₁.get? b = some o) → h₁.get? s.heap.objs.size = some { cls := .type "list", data := .seq #[] c } → s.heap.objs.size + 1 ≤ h₁.objs.size →
      codeAny (model P w) A.in1 (.builtin "list.extend.loop" ⟨[.ref s.heap.objs.size, .ref z, .none], []⟩) (wants (fun r t => r = .none ∧ Q (.ref s.heap.objs.size) t) E) { s with heap := h₁, toks := tk } := fun h₁ c tk kp hL hs => by
    have st : ∀ {fp : List Addr}, (∀ b ∈ fp, b ∈ z :: TI :: TO :: i1 :: i2 :: i3 :: (fp1 ++ fp2 ++ fp3)) → ∀ b ∈ fp, ∀ o, s.heap.get? b = some o → h₁.get? b = some o := fun hf b hb o q => kp b o (lt b (hf b hb)) q
    have d1 := D1 A.in1.in1.in1 (by simpa using hh)
    have d2 := D2 A.in1.in1.in1 (by simpa using hh)
    have d3 := D3 A.in1.in1.in1 (by simpa using hh)
    have u1 : ∀ b ∈ fp1, b ∈ z :: TI :: TO :: i1 :: i2 :: i3 :: (fp1 ++ fp2 ++ fp3) := fun b hb => by simp [hb]
    have u2 : ∀ b ∈ fp2, b ∈ z :: TI :: TO :: i1 :: i2 :: i3 :: (fp1 ++ fp2 ++ fp3) := fun b hb => by simp [hb]
    have u3 : ∀ b ∈ fp3, b ∈ z :: TI :: TO :: i1 :: i2 :: i3 :: (fp1 ++ fp2 ++ fp3) := fun b hb => by simp [hb]
    refine z3_loop (L := s.heap.objs.size) (N := s.heap.objs.size + 1) S d1 d2 d3 hn pos (fun y => ?_) ⟨fun y => lt _ (u1 _ y) rfl, fun y => lt _ (u2 _ y) rfl, fun y => lt _ (u3 _ y) rfl⟩ (fun b hb => ?_) .none n 0 _ [] c (Nat.sub_zero _) (Nat.zero_le _) hs (d1.frame _ _ _ s1 (st u1)) (d2.frame _ _ _ s2 (st u2)) (d3.frame _ _ _ s3 (st u3)) (kp TI _ (lt TI (by simp)) hTI) (.inl ⟨kp z _ (lt z (by simp)) hz, _, _, _, kp TO _ (lt TO (by simp)) hTO⟩) (fun y => absurd rfl y) hL rfl (fun j v hj => by simp at hj) fun h' tk' acc' c' kp' l' n' held => ⟨rfl, hQ h' tk' acc' c' (fun b o hb q => kp' b o (fun y => ?_) (kp b o (Nat.ne_of_lt (Heap.lt_size q)) q)) l' n' held⟩
    · exact lt _ (by
        have y' : s.heap.objs.size = z ∨ s.heap.objs.size = TI ∨ s.heap.objs.size = TO ∨ s.heap.objs.size = i1 ∨ s.heap.objs.size = i2 ∨ s.heap.objs.size = i3 := by simpa using y
        rcases y' with y | y | y | y | y | y <;> simp [← y]) rfl
    · have y' : b = z ∨ b = TI ∨ b = TO ∨ b = i1 ∨ b = i2 ∨ b = i3 ∨ b = s.heap.objs.size := by simpa using hb
      rcases y' with y | y | y | y | y | y | y
      · exact Nat.lt_succ_of_lt (low b (by simp [y]))
      · exact Nat.lt_succ_of_lt (low b (by simp [y]))
      · exact Nat.lt_succ_of_lt (low b (by simp [y]))
      · exact Nat.lt_succ_of_lt (low b (by simp [y]))
      · exact Nat.lt_succ_of_lt (low b (by simp [y]))
      · exact Nat.lt_succ_of_lt (low b (by simp [y]))
      · rw [y]
        exact Nat.lt_succ_self _
    · rcases List.mem_cons.mp y with y | y
      · exact Nat.ne_of_lt (Heap.lt_size q) y
      · exact hb y
  show wpAny _ _ (do let old ← Builtin.List.listItems (.ref s.heap.objs.size); Builtin.List.listUpdate (.ref s.heap.objs.size) (fun _ => #[]); letGo old.toList.reverse; Builtin.List.listExtendWith (.ref s.heap.objs.size) (.ref z) .none) _ _ _
  refine wpAny_bind ?_
  unfold Builtin.List.listItems
  refine wpAny_bind (wpAny_seqItems new rfl (wpAny_pure ?_))
  show wpAny _ _ (updateSeq s.heap.objs.size (fun _ => #[]) >>= fun _ => letGo (#[] : Array Value).toList.reverse >>= fun _ => Builtin.List.listExtendWith (.ref s.heap.objs.size) (.ref z) .none) _ _ _
  refine wpAny_bind (wpAny_updateSeq new rfl ?_)
  have new2 := Heap.get?_update_self (Obj.mapSeq (fun _ => (#[] : Array Value))) new rfl
  have oth : ∀ b o, b ≠ s.heap.objs.size → s.heap.get? b = some o → ((s.heap.push { cls := .type "list", data := .seq #[] }).update s.heap.objs.size (Obj.mapSeq (fun _ => (#[] : Array Value)))).get? b = some o :=
    fun b o hb e => (Heap.get?_update_other _ _ (Ne.symm hb)).trans (Heap.get?_push_of_some _ e)
  have sz2 : s.heap.objs.size + 1 ≤ ((s.heap.push { cls := .type "list", data := .seq #[] }).update s.heap.objs.size (Obj.mapSeq (fun _ => (#[] : Array Value)))).objs.size := by
    rw [Heap.size_update, Heap.size_push]
    exact Nat.le_refl _
  refine wpAny_bind (wpAny_letGo ?_)
  have hz2 := oth z _ (lt z (by simp)) hz
  generalize hg : (s.heap.push { cls := .type "list", data := .seq #[] }).update s.heap.objs.size (Obj.mapSeq (fun _ => (#[] : Array Value))) = g at new2 oth sz2 hz2 ⊢
  have ty : ∀ tk, Shared.TypeIs { s with heap := g, toks := tk } (.ref z) "zip" := fun _ => ⟨_, hz2, rfl⟩
  unfold Builtin.List.listExtendWith
  refine wpAny_bind (wpAny_typeOf (T := "zip") (ty s.toks) ?_)
  have f1 : Builtin.List.listSameRef (.ref s.heap.objs.size) (.ref z) = false := by simp [Builtin.List.listSameRef, nz]
  have f2 : (Value.type "zip" == Value.type "list") = false := by decide
  have f3 : (Value.type "zip" == Value.type "tuple") = false := by decide
  simp only [f1, f2, f3, Bool.or_false, Bool.false_eq_true, if_false]
  refine wpAny_bind (wpAny_pyIter_zip hz2 ?_)
  refine wpAny_bind (wpAny_holding ?_)
  unfold Builtin.List.listLengthHint
  refine wpAny_bind (wpAny_specialOf (ty s.toks) zip_has_no_len ?_)
  show wpAny _ _ (specialOf (Value.ref z) (Str.ofString "__length_hint__") >>= _) _ _ _
  refine wpAny_bind (wpAny_specialOf (ty s.toks) zip_has_no_hint ?_)
  refine wpAny_pure ?_
  show wpAny _ _ (rule "list.extend.makes-room" >>= fun _ => Builtin.List.listTouch (.ref s.heap.objs.size) >>= fun _ => again (.builtin "list.extend.loop" ⟨[.ref s.heap.objs.size, .ref z, .none], []⟩)) _ _ _
  refine wpAny_bind (wpAny_rule ?_)
  refine wpAny_bind ?_
  show wpAny _ _ (updateSeq s.heap.objs.size (·.push .none) >>= fun _ => updateSeq s.heap.objs.size (·.pop)) _ _ _
  refine wpAny_bind (wpAny_updateSeq new2 rfl ?_)
  have new3 := Heap.get?_update_self (Obj.mapSeq (·.push Value.none)) new2 rfl
  refine wpAny_updateSeq (hz := by seq_fits) new3 rfl ?_
  have new4 := Heap.get?_update_self (Obj.mapSeq (·.pop)) new3 rfl
  exact wpAny_pure ⟨plainId_quiet PySem.F.plain_extend_loop _, go _ _ s.toks (fun b o hb q => (Heap.get?_update_other _ _ (Ne.symm hb)).trans ((Heap.get?_update_other _ _ (Ne.symm hb)).trans (oth b o hb q))) new4 (by rw [Heap.size_update, Heap.size_update]; exact sz2)⟩
end
end L3

/-! L3h: list(zip(a, b, c)) over data -/
namespace L3
open PySem PySem.Spec PyProof.Rows L2
/-- many new objects at once -/
theorem inv_many {X : Cx} {pins : List (Addr × Obj)} {σ : L2.St} {H H2 : Hp} {s : Shared} {h' : Heap} {tk : Nat} (I : Inv X pins σ H s) (k : ∀ b u, s.heap.get? b = some u → h'.get? b = some u) (old : ∀ b, H b ≠ Option.none → H2 b = H b)
    (new : ∀ b o, H b = Option.none → H2 b = some o → s.heap.objs.size ≤ b ∧ ObjOk X.prog X.w H2 h' b o) : Inv X pins σ H2 { s with heap := h', toks := tk } := by
  have st : ∀ b o, H b = some o → H2 b = some o := fun b o q => by
    rw [old b (by rw [q]; exact fun z => by cases z)]
    exact q
  refine I.un ⟨fun b u q _ _ _ => k b u q, fun b u q _ _ _ => ⟨u.slots, k b u q⟩, fun b u q n _ => ?_, fun b u q _ => ⟨u, k b u q⟩, fun b xs q => st b _ q, fun b u xs q => st b _ q, fun b ps q => ⟨#[], by rw [st b _ q]; simp⟩⟩ fun b o q => ?_
  · cases e : H2 b with
    | none => rfl
    | some o =>
      have := (new b o n e).1
      exact absurd (Heap.lt_size q) (Nat.not_lt.mpr this)
  · cases e : H b with
    | none => exact (new b o e q).2
    | some u =>
      have q' := st b u e
      rw [q] at q'
      cases q'
      exact (I.hok b o e).stay (fun c v _ r => k c v r) (fun c r => st c _ r) fun c xs r => st c _ r
def tLZ3 (K : PySem.W.Frag) (ta : TA) : TE := fun σ H Q => ta σ H fun vs H1 => ∃ (k1 k2 k3 : Bool) (a b c : Addr) (xs ys zs : List V), vs = [.ref a, .ref b, .ref c] ∧ Sb K k1 H1 a xs ∧ Sb K k2 H1 b ys ∧ Sb K k3 H1 c zs ∧ ys.length = xs.length ∧ zs.length = xs.length ∧ (0 < xs.length ∧ xs.length ≤ 1000) ∧
  ∀ (H2 : Hp) (L : Addr) (Ts : List Addr), (∀ b, H1 b ≠ Option.none → H2 b = H1 b) → H1 L = Option.none → H2 L = some (.lst (Ts.map V.ref)) → Ts.length = xs.length → (∀ (j : Nat) T, Ts[j]? = some T → H1 T = Option.none ∧ T ≠ L ∧ ∃ x y z, xs[j]? = some x ∧ ys[j]? = some y ∧ zs[j]? = some z ∧ H2 T = some (.tup [x, y, z])) → Q (.ref L) H2
theorem refs_of {P1 P2 P3 : Nat → Value → Prop} {N : Nat} {h : Heap} {acc : List Value} (x : Held3 P1 P2 P3 N h acc) : ∃ Ts : List Addr, acc = Ts.map Value.ref := by
  have q : ∀ l : List Value, (∀ v ∈ l, ∃ T, v = Value.ref T) → ∃ Ts : List Addr, l = Ts.map Value.ref := by
    intro l
    induction l with
    | nil => exact fun _ => ⟨[], rfl⟩
    | cons v l ih =>
      intro hl
      obtain ⟨T, e⟩ := hl v List.mem_cons_self
      obtain ⟨Ts, e2⟩ := ih fun u hu => hl u (List.mem_cons_of_mem _ hu)
      exact ⟨T :: Ts, by rw [e, e2]; rfl⟩
  refine q acc fun v hv => ?_
  obtain ⟨j, hj⟩ := List.mem_iff_getElem?.mp hv
  obtain ⟨T, _, _, _, e, _⟩ := x j v hj
  exact ⟨T, e⟩
theorem refs_vals : ∀ Ts : List Addr, Vals (Ts.map V.ref) (Ts.map Value.ref)
  | [] => .nil
  | _ :: Ts => .cons rfl (refs_vals Ts)
theorem pe_listZip3 {X : Cx} {e1 e2 e3 : Expr} {ta : TA} {p p2 q pos : Pos} (hc : X.calm = true) (hg : Gl X "list") (hm : X.mg "list" = Option.none) (hg2 : Gl X "zip") (hm2 : X.mg "zip" = Option.none) (ha : PA X [e1, e2, e3] ta)
    (na : starEach [Expr.Call (.Name "zip" p2) [e1, e2, e3] [] q] X.env = (false, eval (Expr.Call (.Name "zip" p2) [e1, e2, e3] [] q) X.env) :: starEach [] X.env := by rfl)
    (hs : starEach [e1, e2, e3] X.env = (false, eval e1 X.env) :: starEach [e2, e3] X.env := by rfl) (hpl : (backTo q (starEach [e2, e3] X.env)).any (·.1) = false := by rfl) :
    PE X (.Call (.Name "list" p) [.Call (.Name "zip" p2) [e1, e2, e3] [] q] [] pos) (tLZ3 X.K ta) := by
  refine ⟨fun pins s σ H Q I h => ?_⟩
  refine Call_ (ld_blt I hg hm PyProof.Rows.boot_list ?_)
  refine PyProof.Rows.callWith_type1 (PyProof.Rows.args_cons ?_ na) na rfl
  refine Call_ (ld_blt I hg2 hm2 PyProof.Rows.boot_zip (PyProof.Rows.callWith_type1 (thn (ha.run q pins s σ H _ I h) fun us s1 ⟨vs, H1, J, r1, q1⟩ => ?_) hs hpl))
  obtain ⟨k1, k2, k3, a, b, c, xs, ys, zs, ex, hx, hy, hz, l2, l3, ⟨l0, lm⟩, q⟩ := q1
  subst ex
  cases r1 with
  | cons r rr =>
    cases rr with
    | cons r' rr =>
      cases rr with
      | cons r'' rr =>
        cases rr
        cases r
        cases r'
        cases r''
        obtain ⟨is1, rv1, p1, _⟩ := inv_sb J hx
        obtain ⟨is2, rv2, p2, _⟩ := inv_sb J hy
        obtain ⟨is3, rv3, p3, _⟩ := inv_sb J hz
        have m1 := rv1.length
        have m2 := rv2.length
        have m3 := rv3.length
        refine zip_begins3 (begins_sq k1 a is1.toArray) (begins_sq k2 b is2.toArray) (begins_sq k3 c is3.toArray) p1 p2 p3 fun h' hZ hTI hTO g1 g2 g3 hsz hk => PyProof.Rows.args_nil ?_
        have sep := zip_sep3 (N := s1.heap.objs.size) (fp1 := [a]) (fp2 := [b]) (fp3 := [c]) (fun y hy => by rw [List.mem_singleton.mp hy]; exact sqv_lt p1) (fun y hy => by rw [List.mem_singleton.mp hy]; exact sqv_lt p2) (fun y hy => by rw [List.mem_singleton.mp hy]; exact sqv_lt p3)
        have w1 := sqv_keep p1 (hk a)
        have w2 := sqv_keep p2 (hk b)
        have w3 := sqv_keep p3 (hk c)
        have n1 := sqit_ne (sqit_zero g1) w1
        have n2 := sqit_ne (sqit_zero g2) w2
        have n3 := sqit_ne (sqit_zero g3) w3
        have z1 : is1.toArray.size = xs.length := by rw [List.size_toArray]; omega
        have z2 : is2.toArray.size = xs.length := by rw [List.size_toArray]; omega
        have z3 : is3.toArray.size = xs.length := by rw [List.size_toArray]; omega
        have D1 : ∀ A : Around, A.handled = Option.none → Draws X.prog X.w A s1.heap.objs.size [s1.heap.objs.size, a] xs.length (fun i v => is1.toArray[i]? = some v) (fun i h => SqIt k1 h s1.heap.objs.size a i ∧ SqV k1 h a is1.toArray) := fun A hA => by
          rw [← z1]
          exact draws_sq k1 hA _ a n1 is1.toArray
        have D2 : ∀ A : Around, A.handled = Option.none → Draws X.prog X.w A (s1.heap.objs.size + 1) [s1.heap.objs.size + 1, b] xs.length (fun i v => is2.toArray[i]? = some v) (fun i h => SqIt k2 h (s1.heap.objs.size + 1) b i ∧ SqV k2 h b is2.toArray) := fun A hA => by
          rw [← z2]
          exact draws_sq k2 hA _ b n2 is2.toArray
        have D3 : ∀ A : Around, A.handled = Option.none → Draws X.prog X.w A (s1.heap.objs.size + 2) [s1.heap.objs.size + 2, c] xs.length (fun i v => is3.toArray[i]? = some v) (fun i h => SqIt k3 h (s1.heap.objs.size + 2) c i ∧ SqV k3 h c is3.toArray) := fun A hA => by
          rw [← z3]
          exact draws_sq k3 hA _ c n3 is3.toArray
        have q1 := sqv_lt p1
        have q2 := sqv_lt p2
        have q3 := sqv_lt p3
        refine list_of_zip3 (s := { s1 with heap := h' }) sep D1 D2 D3 (J.ok.hd hc) (Nat.lt_of_le_of_lt lm (by rw [sizeLine_eq]; decide)) l0 (fun y hy => ?_) hZ hTI hTO ⟨sqit_zero g1, w1⟩ ⟨sqit_zero g2, w2⟩ ⟨sqit_zero g3, w3⟩ fun h2 tk acc cc kp hL hlen held => ?_
        · have e' : y = s1.heap.objs.size + 5 ∨ y = s1.heap.objs.size + 3 ∨ y = s1.heap.objs.size + 4 ∨ y = s1.heap.objs.size ∨ y = s1.heap.objs.size + 1 ∨ y = s1.heap.objs.size + 2 ∨ y = a ∨ y = b ∨ y = c := by
            simp only [List.mem_cons, List.mem_append, List.not_mem_nil, or_false] at hy
            rcases hy with y | y | y | y | y | y | ((y | y) | (y | y)) | (y | y) <;> simp [y]
          show y < h'.objs.size
          rw [hsz]
          rcases e' with y | y | y | y | y | y | y | y | y
          · rw [y]; exact Nat.lt_succ_self _
          · rw [y]; exact Nat.add_lt_add_left (by decide) _
          · rw [y]; exact Nat.add_lt_add_left (by decide) _
          · rw [y]; exact Nat.lt_add_of_pos_right (by decide)
          · rw [y]; exact Nat.add_lt_add_left (by decide) _
          · rw [y]; exact Nat.add_lt_add_left (by decide) _
          · rw [y]; exact Nat.lt_of_lt_of_le q1 (Nat.le_add_right _ _)
          · rw [y]; exact Nat.lt_of_lt_of_le q2 (Nat.le_add_right _ _)
          · rw [y]; exact Nat.lt_of_lt_of_le q3 (Nat.le_add_right _ _)
        · replace hL : h2.get? h'.objs.size = some { cls := .type "list", data := .seq acc.toArray cc } := hL
          replace held : Held3 (fun i v => is1.toArray[i]? = some v) (fun i v => is2.toArray[i]? = some v) (fun i v => is3.toArray[i]? = some v) (h'.objs.size + 1) h2 acc := held
          have keep : ∀ y o, s1.heap.get? y = some o → h2.get? y = some o := fun y o e => kp y o (fun hy => by
            have lt := Heap.lt_size e
            have e' : y = s1.heap.objs.size + 5 ∨ y = s1.heap.objs.size + 4 ∨ y = s1.heap.objs.size ∨ y = s1.heap.objs.size + 1 ∨ y = s1.heap.objs.size + 2 := by simpa using hy
            rcases e' with z | z | z | z | z
            · rw [z] at lt; exact absurd lt (Nat.not_lt.mpr (Nat.le_add_right _ _))
            · rw [z] at lt; exact absurd lt (Nat.not_lt.mpr (Nat.le_add_right _ _))
            · rw [z] at lt; exact absurd lt (Nat.lt_irrefl _)
            · rw [z] at lt; exact absurd lt (Nat.not_lt.mpr (Nat.le_add_right _ _))
            · rw [z] at lt; exact absurd lt (Nat.not_lt.mpr (Nat.le_add_right _ _))) (hk y o e)
          have hle : s1.heap.objs.size ≤ h'.objs.size := by rw [hsz]; exact Nat.le_add_right _ _
          obtain ⟨Ts, eT⟩ := refs_of held
          subst eT
          -- what stands at a tuple
          have what : ∀ (j : Nat) T, Ts[j]? = some T → ∃ u1 u2 u3 x y z, h'.objs.size + 1 ≤ T ∧ xs[j]? = some x ∧ ys[j]? = some y ∧ zs[j]? = some z ∧ Vals [x, y, z] [u1, u2, u3] ∧ IsTupOf3 h2 T u1 u2 u3 := fun j T hj => by
            obtain ⟨T', u1, u2, u3, ev, hT, y1, y2, y3, tup⟩ := held j (.ref T) (by rw [List.getElem?_map, hj]; rfl)
            cases ev
            have jl : j < xs.length := by
              have := (List.getElem?_eq_some_iff.mp hj).1
              rw [List.length_map] at hlen
              omega
            obtain ⟨v1, f1, s1'⟩ := rv1.get (List.getElem?_eq_getElem jl)
            obtain ⟨v2, f2, s2'⟩ := rv2.get (List.getElem?_eq_getElem (show j < ys.length by omega))
            obtain ⟨v3, f3, s3'⟩ := rv3.get (List.getElem?_eq_getElem (show j < zs.length by omega))
            have g1' : v1 = u1 := Option.some.inj (f1.symm.trans (by simpa using y1))
            have g2' : v2 = u2 := Option.some.inj (f2.symm.trans (by simpa using y2))
            have g3' : v3 = u3 := Option.some.inj (f3.symm.trans (by simpa using y3))
            subst g1' g2' g3'
            exact ⟨v1, v2, v3, _, _, _, hT, List.getElem?_eq_getElem jl, List.getElem?_eq_getElem _, List.getElem?_eq_getElem _, .cons s1' (.cons s2' (.cons s3' .nil)), tup⟩
          -- the heap of what is known
          let H2 : Hp := fun y => if y = h'.objs.size then some (.lst (Ts.map V.ref)) else
            match Ts.findIdx? (fun T => decide (T = y)) with
            | some j => (match xs[j]?, ys[j]?, zs[j]? with
              | some x, some y, some z => some (.tup [x, y, z])
              | _, _, _ => H1 y)
            | Option.none => H1 y
          have at' : ∀ T, T ∈ Ts → ∃ u1 u2 u3 x y z j, Ts[j]? = some T ∧ h'.objs.size + 1 ≤ T ∧ xs[j]? = some x ∧ ys[j]? = some y ∧ zs[j]? = some z ∧ Vals [x, y, z] [u1, u2, u3] ∧ IsTupOf3 h2 T u1 u2 u3 ∧ H2 T = some (.tup [x, y, z]) := fun T hT => by
            cases e : Ts.findIdx? (fun U => decide (U = T)) with
            | none =>
              have := List.findIdx?_eq_none_iff.mp e T hT
              simp at this
            | some j =>
              obtain ⟨hj, h1, _⟩ := List.findIdx?_eq_some_iff_getElem.mp e
              have hjT : Ts[j]? = some T := by
                rw [List.getElem?_eq_getElem hj]
                exact congrArg some (of_decide_eq_true h1)
              obtain ⟨u1, u2, u3, x, y, z, b1, b2, b3, b4, b5, b6⟩ := what j T hjT
              refine ⟨u1, u2, u3, x, y, z, j, hjT, b1, b2, b3, b4, b5, b6, ?_⟩
              show (if T = h'.objs.size then _ else _) = _
              rw [if_neg (Nat.ne_of_gt b1), e]
              simp only [b2, b3, b4]
          have off : ∀ y, y ≠ h'.objs.size → y ∉ Ts → H2 y = H1 y := fun y ny nT => by
            have e : Ts.findIdx? (fun T => decide (T = y)) = Option.none := List.findIdx?_eq_none_iff.mpr fun U hU => decide_eq_false fun z => nT (by rw [← z]; exact hU)
            show (if y = h'.objs.size then _ else _) = _
            rw [if_neg ny, e]
          have freshT : ∀ T, T ∈ Ts → H1 T = Option.none := fun T hT => by
            obtain ⟨_, _, _, _, _, _, _, _, b1, _⟩ := at' T hT
            exact J.hok.fresh (Nat.le_trans hle (Nat.le_of_succ_le b1))
          have freshL : H1 h'.objs.size = Option.none := J.hok.fresh hle
          have hL2 : H2 h'.objs.size = some (.lst (Ts.map V.ref)) := if_pos rfl
          have old : ∀ y, H1 y ≠ Option.none → H2 y = H1 y := fun y hy => off y (fun z => hy (z ▸ freshL)) fun z => hy (freshT y z)
          have J2 : Inv X pins σ H2 { s1 with heap := h2, toks := tk } := inv_many (tk := tk) J keep old fun y o n e => by
            by_cases hy : y = h'.objs.size
            · subst hy
              rw [hL2] at e
              cases e
              rw [List.length_map] at hlen
              exact ⟨hle, by rw [List.length_map, hlen]; exact Nat.le_trans lm (by rw [sizeLine_eq]; decide), Ts.map Value.ref, cc, refs_vals Ts, hL⟩
            · by_cases hT : y ∈ Ts
              · obtain ⟨u1, u2, u3, x, y', z, j, _, b1, _, _, _, b5, b6, b7⟩ := at' y hT
                rw [b7] at e
                cases e
                exact ⟨Nat.le_trans hle (Nat.le_of_succ_le b1), (by rw [sizeLine_eq]; decide : 3 ≤ sizeLine), [u1, u2, u3], b5, _, b6, rfl, _, rfl⟩
              · rw [off y hy hT, n] at e
                cases e
          refine ⟨.ref h'.objs.size, H2, J2, rfl, q H2 h'.objs.size Ts old freshL hL2 (by rw [List.length_map] at hlen; exact hlen) fun j T hj => ?_⟩
          have hT := List.mem_of_getElem? hj
          obtain ⟨u1, u2, u3, x, y, z, b1, b2, b3, b4, b5, b6⟩ := what j T hj
          obtain ⟨u1', u2', u3', x', y', z', j', _, _, _, _, _, b5', b6', b7'⟩ := at' T hT
          have bb := b6.symm.trans b6'
          have ee : [u1, u2, u3] = [u1', u2', u3'] := by
            have := Option.some.inj bb
            simp at this
            simp [this]
          rw [← ee] at b5'
          have vv := b5.inj b5'
          refine ⟨freshT T hT, Nat.ne_of_gt b1, x, y, z, b2, b3, b4, ?_⟩
          rw [b7', vv]
def zip3D (xs ys zs : List PyData) : List PyData := (xs.zip (ys.zip zs)).map fun p => .tuple [p.1, p.2.1, p.2.2]
theorem dpAll_at {K : PySem.W.Frag} {G : Hp} : ∀ {vs : List V} {ds : List PyData}, vs.length = ds.length → (∀ (j : Nat) v d, vs[j]? = some v → ds[j]? = some d → Dp K G v d) → DpAll K G vs ds
  | [], [], _, _ => .nil
  | v :: vs, d :: ds, l, h => .cons (h 0 v d rfl rfl) (dpAll_at (Nat.succ.inj l) fun j v d q r => h (j + 1) v d (by simpa using q) (by simpa using r))
  | [], _ :: _, l, _ => by cases l
  | _ :: _, [], l, _ => by cases l
theorem ew_listZip3 {C : Cn} {δ : DSl} {ta : TA} {Q : Cl → Prop} (h : AW C ta δ fun cs => ∃ k1 k2 k3 c1 c2 c3 xs ys zs, cs = [c1, c2, c3] ∧ IsSqK k1 c1 xs ∧ IsSqK k2 c2 ys ∧ IsSqK k3 c3 zs ∧ ys.length = xs.length ∧ zs.length = xs.length ∧ (0 < xs.length ∧ xs.length ≤ 1000) ∧ Q (.own (zip3D xs ys zs))) : EW C (tLZ3 C.K ta) δ Q := fun G H σ e Q' k =>
  h G H σ e _ fun vs cs G1 H1 g1 o1 ⟨k1, k2, k3, c1, c2, c3, xs, ys, zs, e1, i1, i2, i3, l2, l3, lm, q⟩ => by
    subst e1
    match vs, o1 with
    | [v1, v2, v3], o1 =>
      obtain ⟨a, us1, rfl, s1, a1⟩ := sb_of g1.wd o1.1 i1
      obtain ⟨b, us2, rfl, s2, a2⟩ := sb_of g1.wd o1.2.1 i2
      obtain ⟨c, us3, rfl, s3, a3⟩ := sb_of g1.wd o1.2.2.1 i3
      have n1 := a1.length
      have n2 := a2.length
      have n3 := a3.length
      refine ⟨k1, k2, k3, a, b, c, us1, us2, us3, rfl, s1 G1 H1 (Same.refl G1) g1.wd, s2 G1 H1 (Same.refl G1) g1.wd, s3 G1 H1 (Same.refl G1) g1.wd, by omega, by omega, by omega, fun H2 L Ts old fL hL hl hT => ?_⟩
      have fT : ∀ T, T ∈ Ts → H1 T = Option.none ∧ T ≠ L := fun T m => by
        obtain ⟨j, hj⟩ := List.mem_iff_getElem?.mp m
        obtain ⟨f, n, _⟩ := hT j T hj
        exact ⟨f, n⟩
      have w := g1.wd
      let G2 : Hp := fun y => if y ∈ Ts then H2 y else G1 y
      have st : ∀ y o, H1 y = some o → H2 y = some o := fun y o q => by
        rw [old y (by rw [q]; exact fun z => by cases z)]
        exact q
      have nT : ∀ y o, H1 y = some o → y ∉ Ts := fun y o q m => by
        rw [(fT y m).1] at q
        cases q
      have s12 : Same G1 G2 := fun y u q => by
        show (if y ∈ Ts then H2 y else G1 y) = some u
        rw [if_neg (nT y u (w.ex y u q))]
        exact q
      have go : Go C.R G1 H1 G2 H2 := by
        refine ⟨s12, ⟨fun y u q => ?_, fun y hy => ?_, C.R.loc H1 H2 (fun y hy => old y (C.R.tr H1 y w.ok hy)) w.ok⟩, fun y o q _ => st y o q, fun y o q n => ?_⟩
        · by_cases m : y ∈ Ts
          · rw [show G2 y = H2 y from if_pos m] at q
            exact q
          · rw [show G2 y = G1 y from if_neg m] at q
            exact st y u (w.ex y u q)
        · have : y ∉ Ts := fun m => C.R.tr H1 y w.ok hy (fT y m).1
          rw [show G2 y = G1 y from if_neg this]
          exact w.out y hy
        · rw [show G2 y = G1 y from if_neg (nT y o q)]
          exact n
      obtain ⟨hL0, hLr⟩ := g1.back e.wd fL
      have hG2 : G2 L = Option.none := by
        rw [show G2 L = G1 L from if_neg fun m => (fT L m).2 rfl]
        exact (w.fresh fL).1
      refine k _ (.own (zip3D xs ys zs)) G2 H2 (g1.trans go) ⟨L, _, rfl, hL, hG2, hLr, ((e.go.trans g1).back e.w0 fL).1, ?_⟩ (fun ys' b' _ z => by cases z; exact hL0) q
      have lz : (zip3D xs ys zs).length = Ts.length := by
        unfold zip3D
        rw [List.length_map, List.length_zip, List.length_zip]
        omega
      refine dpAll_at (by rw [List.length_map]; exact lz.symm) fun j v d hv hd => ?_
      rw [List.getElem?_map] at hv
      cases eT : Ts[j]? with
      | none =>
        rw [eT] at hv
        cases hv
      | some T =>
        rw [eT] at hv
        cases hv
        obtain ⟨_, _, x, y, z, b1, b2, b3, b4⟩ := hT j T eT
        obtain ⟨d1, f1, r1⟩ := a1.get' b1
        obtain ⟨d2, f2, r2⟩ := a2.get' b2
        obtain ⟨d3, f3, r3⟩ := a3.get' b3
        have ed : d = .tuple [d1, d2, d3] := by
          unfold zip3D at hd
          rw [List.getElem?_map, (List.getElem?_zip_eq_some (z := (d1, (d2, d3)))).mpr ⟨f1, (List.getElem?_zip_eq_some (z := (d2, d3))).mpr ⟨f2, f3⟩⟩] at hd
          cases hd
          rfl
        subst ed
        refine .tup (SqT.of ?_) (.cons (dp_mono s12 r1) (.cons (dp_mono s12 r2) (.cons (dp_mono s12 r3) .nil)))
        rw [show G2 T = H2 T from if_pos (List.mem_of_getElem? eT)]
        exact b4
end L3

/-! L3i: odds and ends -/
namespace L3
open PySem PySem.Spec PyProof.Rows L2
/-- a tuple target within a comprehension: the frag named -/
theorem pg_tupK {X : Cx} {K : PySem.W.Frag} {pos : Pos} {es : List Expr} {k : Nat} {t : TGs} {n : Nat} (hc : X.calm = true) (hK : X.K = K) (h : PGs X es t)
    (hn : (assignEach es X.env).length = n := by rfl) (hst : (assignEach es X.env).findIdx? (·.1) = Option.none := by rfl) : PG X (.Tuple es k pos) (gTup K n t) := by
  subst hK
  exact pg_tup hc h hn hst
theorem ixK_tup {X : Cx} {K : PySem.W.Frag} (hK : X.K = K) : IxR X (rIxT K) := by
  subst hK
  exact ix_tup
theorem ixK_list {X : Cx} {K : PySem.W.Frag} (hK : X.K = K) : IxR X (rIxL K) := by
  subst hK
  exact ix_list
theorem opK_catA {X : Cx} {K : PySem.W.Frag} (hK : X.K = K) : OpR X (binaryOp .Add) (rCatA K) := by
  subst hK
  exact op_catA
theorem mtK_lcount {X : Cx} {K : PySem.W.Frag} (hK : X.K = K) : MtR X "list.count" (rCntI K) := by
  subst hK
  exact mt_lcount
theorem pe_bmK {X : Cx} {K : PySem.W.Frag} {o e : Expr} {es : List Expr} {to : TE} {t : TA} {name : Str} {apos cpos : Pos} {T id : String} {r : V → List V → Hp → VK → Prop} (hK : X.K = K) (pl : PlainAttrs T) (slot : Slot T name id) (hty : typeOf (.builtin id) = pure (.type "method_descriptor")) (hm : MtR X id r) (ho : PE X o to) (ha : PA X (e :: es) t)
    (hb : attributeBase o name X.env (eval o X.env) = eval o X.env := by rfl)
    (hf : ((backTo cpos (starEach (e :: es) X.env)).all (fun x => !x.1) && (backToKw cpos (keywordEach [] X.env)).all (fun x => x.1.isSome) && decide ((e :: es).length + ([] : List Keyword).length + (if ([] : List Keyword).isEmpty then 0 else 1) < 30)) = true := by rfl)
    (hl : (apos.endLine == cpos.line) = true := by rfl) (hs : starEach (e :: es) X.env = (false, eval e X.env) :: starEach es X.env := by rfl) (hp : (backTo cpos (starEach es X.env)).any (·.1) = false := by rfl) :
    PE X (.Call (.Attribute o name apos) (e :: es) [] cpos) (tBM K T r to t) := by
  subst hK
  exact pe_bm pl slot hty hm ho ha hb hf hl hs hp
/-- a, b = e, f: any values but own lists -/
theorem sw_par2 {C : Cn} {δ : DSl} {D : DEnds} {i j : Nat} {ta : TA} (h : AW C ta δ fun cs => ∃ c d, cs = [c, d] ∧ ArgOk c ∧ ArgOk d ∧ D.nx ((δ.set i (some c)).set j (some d))) : SW C (tPar i j ta) D δ := fun G H σ e D' k =>
  h G H σ e _ fun vs cs G1 H1 g1 o1 ⟨c, d, e1, ac, ad, q⟩ => by
    subst e1
    have ok : ∀ {c : Cl}, ArgOk c → (∀ xs, c ≠ .see xs) ∧ ∀ xs, c ≠ .own xs := fun {c} a => ⟨fun xs z => by subst z; exact a, fun xs z => by subst z; exact a⟩
    match vs, o1 with
    | [v, w], o1 => exact ⟨v, w, rfl, k.nx G1 H1 _ _ g1.ex (((e.go' g1).set o1.1 (ok ac).1 fun xs a z => ((ok ac).2 xs z).elim).set o1.2.1 (ok ad).1 fun xs a z => ((ok ad).2 xs z).elim) q⟩
end L3

/-! L3j: a, b = (e, f) by a tuple; ends that are no ends -/
namespace L3
open PySem PySem.Spec PyProof.Rows L2
theorem sw_tup2 {C : Cn} {δ : DSl} {D : DEnds} {i j n : Nat} {ta : TA} (hn : n = 2) (h : AW C ta δ fun cs => ∃ c d, cs = [c, d] ∧ ArgOk c ∧ ArgOk d ∧ D.nx ((δ.set i (some c)).set j (some d))) : SW C (tAsg (tTup ta) (gTup C.K n (gCons (gName i) (gCons (gName j) gNil)))) D δ := fun G H σ e D' k =>
  h G H σ e _ fun vs cs G1 H1 g1 o1 ⟨c, d, e1, ac, ad, q⟩ => by
    subst e1 hn
    have ok : ∀ {c : Cl}, ArgOk c → (∀ xs, c ≠ .see xs) ∧ ∀ xs, c ≠ .own xs := fun {c} a => ⟨fun xs z => by subst z; exact a, fun xs z => by subst z; exact a⟩
    match vs, o1 with
    | [v, w], o1 =>
      refine ⟨Nat.le_of_lt (small1000 (Nat.le_of_ble_eq_true rfl : 2 ≤ 1000)), fun p hp => ?_⟩
      have g2 := Go.new1 g1.wd hp (.tup [v, w])
      have e2 := (e.go' g1).go' g2
      have a1 := o1.1.go g2
      have a2 := o1.2.1.go g2
      refine ⟨p, [v, w], rfl, SqT.of upd_same, rfl, v, [w], rfl, w, [], rfl, rfl, ?_⟩
      exact k.nx _ _ _ _ (g1.ex.trans g2.ex) ((e2.set a1 (ok ac).1 fun xs a z => ((ok ac).2 xs z).elim).set a2 (ok ad).1 fun xs a z => ((ok ad).2 xs z).elim) q
theorem sw_weak {C : Cn} {δ : DSl} {D : DEnds} {t : TS} {c : Cl} (hr : D.rt c) (h : SW C t ⟨fun _ => False, fun x => x = c, fun _ => False, fun _ => False⟩ δ) : SW C t D δ := fun G H σ e D' k =>
  h G H σ e D' ⟨fun _ _ _ _ _ _ z => z.elim, fun G1 H1 v x g o ns z => k.rt G1 H1 v x g o ns (z ▸ hr), fun _ _ _ _ _ _ z => z.elim, fun _ _ _ _ _ _ z => z.elim⟩
end L3

namespace K42
open PySem PySem.Spec PyProof.Rows L2 L3
def topS (i : Nat) : Stmt := PySem.Challenge.pw_wirebeats_k42_points_at_a_beat.main.body.getD i (.Pass ⟨0, 0, 0, 0⟩)
abbrev s_share : Stmt := topS 1
theorem sc_share : FnScope ["one", "other", "first", "second", "left", "right", "many"] ["one", "other"] (defScope s_share) := ⟨rfl, rfl, rfl, by decide +kernel, rfl, by decide +kernel, by decide +kernel⟩
abbrev s_steps_in : Stmt := topS 2
theorem sc_steps_in : FnScope ["item", "step", "size"] ["item", "step", "size"] (defScope s_steps_in) := ⟨rfl, rfl, rfl, by decide +kernel, rfl, by decide +kernel, by decide +kernel⟩
abbrev s_stretch : Stmt := topS 3
theorem sc_stretch : FnScope ["box", "point", "vector", "rows", "some", "item", "step", "size", "low", "high"] ["box", "point", "vector"] (defScope s_stretch) := ⟨rfl, rfl, rfl, by decide +kernel, rfl, by decide +kernel, by decide +kernel⟩
abbrev s_product_of : Stmt := topS 4
theorem sc_product_of : FnScope ["numbers", "found", "number"] ["numbers"] (defScope s_product_of) := ⟨rfl, rfl, rfl, by decide +kernel, rfl, by decide +kernel, by decide +kernel⟩
abbrev s_count_on_plane : Stmt := topS 6
theorem sc_count_on_plane : FnScope ["box", "weights", "beat", "one", "other", "found", "left", "right", "point", "low", "high"] ["box", "weights", "beat"] (defScope s_count_on_plane) := ⟨rfl, rfl, rfl, by decide +kernel, rfl, by decide +kernel, by decide +kernel⟩
abbrev s_count_at : Stmt := topS 7
theorem sc_count_at : FnScope ["box", "weights", "beat", "axis", "rest", "others", "at", "size", "weight", "item"] ["box", "weights", "beat"] (defScope s_count_at) := ⟨rfl, rfl, rfl, by decide +kernel, rfl, by decide +kernel, by decide +kernel⟩
abbrev s__law_spring : Stmt := topS 9
theorem sc__law_spring : FnScope ["_law_script", "_law_great_here", "_law_mixed", "_law_cell"] ["_law_script"] (defScope s__law_spring) := ⟨rfl, rfl, rfl, by decide +kernel, rfl, by decide +kernel, by decide +kernel⟩
abbrev s__law_dip : Stmt := topS 10
theorem sc__law_dip : FnScope ["_law_spring_here", "_law_many", "_law_digit"] ["_law_spring_here", "_law_many"] (defScope s__law_dip) := ⟨rfl, rfl, rfl, by decide +kernel, rfl, by decide +kernel, by decide +kernel⟩
abbrev s__law_pick : Stmt := topS 11
theorem sc__law_pick : FnScope ["_law_spring_here", "_law_some"] ["_law_spring_here", "_law_some"] (defScope s__law_pick) := ⟨rfl, rfl, rfl, by decide +kernel, rfl, by decide +kernel, by decide +kernel⟩
abbrev s__law_far : Stmt := topS 12
theorem sc__law_far : FnScope ["_law_spring_here", "_law_most"] ["_law_spring_here", "_law_most"] (defScope s__law_far) := ⟨rfl, rfl, rfl, by decide +kernel, rfl, by decide +kernel, by decide +kernel⟩
abbrev s__law_gcd : Stmt := topS 13
theorem sc__law_gcd : FnScope ["_law_one", "_law_other"] ["_law_one", "_law_other"] (defScope s__law_gcd) := ⟨rfl, rfl, rfl, by decide +kernel, rfl, by decide +kernel, by decide +kernel⟩
abbrev s__law_weights : Stmt := topS 14
theorem sc__law_weights : FnScope ["_law_spring_here", "_law_dims", "_law_axis"] ["_law_spring_here", "_law_dims"] (defScope s__law_weights) := ⟨rfl, rfl, rfl, by decide +kernel, rfl, by decide +kernel, by decide +kernel⟩
abbrev s__law_box : Stmt := topS 15
theorem sc__law_box : FnScope ["_law_spring_here", "_law_dims", "_law_most", "_law_axis"] ["_law_spring_here", "_law_dims"] (defScope s__law_box) := ⟨rfl, rfl, rfl, by decide +kernel, rfl, by decide +kernel, by decide +kernel⟩
abbrev s__law_great : Stmt := topS 16
theorem sc__law_great : FnScope ["_law_spring_here", "_law_dims", "_law_some", "_law_axis"] ["_law_spring_here", "_law_dims"] (defScope s__law_great) := ⟨rfl, rfl, rfl, by decide +kernel, rfl, by decide +kernel, by decide +kernel⟩
abbrev s__law_dot : Stmt := topS 17
theorem sc__law_dot : FnScope ["_law_one", "_law_other", "_law_left", "_law_right"] ["_law_one", "_law_other"] (defScope s__law_dot) := ⟨rfl, rfl, rfl, by decide +kernel, rfl, by decide +kernel, by decide +kernel⟩
abbrev s__law_points : Stmt := topS 18
theorem sc__law_points : FnScope ["_law_box_here", "_law_found", "_law_size", "_law_longer", "_law_ahead", "_law_item"] ["_law_box_here"] (defScope s__law_points) := ⟨rfl, rfl, rfl, by decide +kernel, rfl, by decide +kernel, by decide +kernel⟩
abbrev s__law_between : Stmt := topS 19
theorem sc__law_between : FnScope ["_law_low", "_law_high", "_law_first", "_law_step"] ["_law_low", "_law_high", "_law_first", "_law_step"] (defScope s__law_between) := ⟨rfl, rfl, rfl, by decide +kernel, rfl, by decide +kernel, by decide +kernel⟩
abbrev s__law_single : Stmt := topS 20
theorem sc__law_single : FnScope ["_law_weight", "_law_size", "_law_beat"] ["_law_weight", "_law_size", "_law_beat"] (defScope s__law_single) := ⟨rfl, rfl, rfl, by decide +kernel, rfl, by decide +kernel, by decide +kernel⟩
abbrev s__law_double : Stmt := topS 21
theorem sc__law_double : FnScope ["_law_weights_here", "_law_box_here", "_law_beat", "_law_one", "_law_other", "_law_starts", "_law_step", "_law_ends", "_law_low", "_law_high", "_law_item"] ["_law_weights_here", "_law_box_here", "_law_beat"] (defScope s__law_double) := ⟨rfl, rfl, rfl, by decide +kernel, rfl, by decide +kernel, by decide +kernel⟩
abbrev s__law_due : Stmt := topS 22
theorem sc__law_due : FnScope ["_law_weights_here", "_law_box_here", "_law_beat", "_law_at", "_law_rest", "_law_others", "_law_item"] ["_law_weights_here", "_law_box_here", "_law_beat"] (defScope s__law_due) := ⟨rfl, rfl, rfl, by decide +kernel, rfl, by decide +kernel, by decide +kernel⟩
abbrev s_law : Stmt := topS 23
theorem sc_law : FnScope ["_law_script", "_law_spring_here", "_law_nth", "_law_dims", "_law_box_here", "_law_weights_here", "_law_point", "_law_beat", "_law_beats", "_law_some", "_law_sizes", "_law_others", "_law_size", "_law_at"] ["_law_script"] (defScope s_law) := ⟨rfl, rfl, rfl, by decide +kernel, rfl, by decide +kernel, by decide +kernel⟩
structure Tp (K : PySem.W.Frag) (mg : Str → Option Value) where
  a_share : Addr
  d_share : FuncData
  F_share : Fun K "share" "share" s_share a_share d_share
  g_share : mg "share" = some (.ref a_share)
  b_share : Binds K d_share ["one", "other"] []
  a_steps_in : Addr
  d_steps_in : FuncData
  F_steps_in : Fun K "steps_in" "steps_in" s_steps_in a_steps_in d_steps_in
  g_steps_in : mg "steps_in" = some (.ref a_steps_in)
  b_steps_in : Binds K d_steps_in ["item", "step", "size"] []
  a_stretch : Addr
  d_stretch : FuncData
  F_stretch : Fun K "stretch" "stretch" s_stretch a_stretch d_stretch
  g_stretch : mg "stretch" = some (.ref a_stretch)
  b_stretch : Binds K d_stretch ["box", "point", "vector"] []
  a_product_of : Addr
  d_product_of : FuncData
  F_product_of : Fun K "product_of" "product_of" s_product_of a_product_of d_product_of
  g_product_of : mg "product_of" = some (.ref a_product_of)
  b_product_of : Binds K d_product_of ["numbers"] []
  a_count_on_plane : Addr
  d_count_on_plane : FuncData
  F_count_on_plane : Fun K "count_on_plane" "count_on_plane" s_count_on_plane a_count_on_plane d_count_on_plane
  g_count_on_plane : mg "count_on_plane" = some (.ref a_count_on_plane)
  b_count_on_plane : Binds K d_count_on_plane ["box", "weights", "beat"] []
  a_count_at : Addr
  d_count_at : FuncData
  F_count_at : Fun K "count_at" "count_at" s_count_at a_count_at d_count_at
  g_count_at : mg "count_at" = some (.ref a_count_at)
  b_count_at : Binds K d_count_at ["box", "weights", "beat"] []
  a__law_spring : Addr
  d__law_spring : FuncData
  F__law_spring : Fun K "_law_spring" "_law_spring" s__law_spring a__law_spring d__law_spring
  g__law_spring : mg "_law_spring" = some (.ref a__law_spring)
  b__law_spring : Binds K d__law_spring ["_law_script"] []
  a__law_dip : Addr
  d__law_dip : FuncData
  F__law_dip : Fun K "_law_dip" "_law_dip" s__law_dip a__law_dip d__law_dip
  g__law_dip : mg "_law_dip" = some (.ref a__law_dip)
  b__law_dip : Binds K d__law_dip ["_law_spring_here", "_law_many"] []
  a__law_pick : Addr
  d__law_pick : FuncData
  F__law_pick : Fun K "_law_pick" "_law_pick" s__law_pick a__law_pick d__law_pick
  g__law_pick : mg "_law_pick" = some (.ref a__law_pick)
  b__law_pick : Binds K d__law_pick ["_law_spring_here", "_law_some"] []
  a__law_far : Addr
  d__law_far : FuncData
  F__law_far : Fun K "_law_far" "_law_far" s__law_far a__law_far d__law_far
  g__law_far : mg "_law_far" = some (.ref a__law_far)
  b__law_far : Binds K d__law_far ["_law_spring_here", "_law_most"] []
  a__law_gcd : Addr
  d__law_gcd : FuncData
  F__law_gcd : Fun K "_law_gcd" "_law_gcd" s__law_gcd a__law_gcd d__law_gcd
  g__law_gcd : mg "_law_gcd" = some (.ref a__law_gcd)
  b__law_gcd : Binds K d__law_gcd ["_law_one", "_law_other"] []
  a__law_weights : Addr
  d__law_weights : FuncData
  F__law_weights : Fun K "_law_weights" "_law_weights" s__law_weights a__law_weights d__law_weights
  g__law_weights : mg "_law_weights" = some (.ref a__law_weights)
  b__law_weights : Binds K d__law_weights ["_law_spring_here", "_law_dims"] []
  a__law_box : Addr
  d__law_box : FuncData
  F__law_box : Fun K "_law_box" "_law_box" s__law_box a__law_box d__law_box
  g__law_box : mg "_law_box" = some (.ref a__law_box)
  b__law_box : Binds K d__law_box ["_law_spring_here", "_law_dims"] []
  a__law_great : Addr
  d__law_great : FuncData
  F__law_great : Fun K "_law_great" "_law_great" s__law_great a__law_great d__law_great
  g__law_great : mg "_law_great" = some (.ref a__law_great)
  b__law_great : Binds K d__law_great ["_law_spring_here", "_law_dims"] []
  a__law_dot : Addr
  d__law_dot : FuncData
  F__law_dot : Fun K "_law_dot" "_law_dot" s__law_dot a__law_dot d__law_dot
  g__law_dot : mg "_law_dot" = some (.ref a__law_dot)
  b__law_dot : Binds K d__law_dot ["_law_one", "_law_other"] []
  a__law_points : Addr
  d__law_points : FuncData
  F__law_points : Fun K "_law_points" "_law_points" s__law_points a__law_points d__law_points
  g__law_points : mg "_law_points" = some (.ref a__law_points)
  b__law_points : Binds K d__law_points ["_law_box_here"] []
  a__law_between : Addr
  d__law_between : FuncData
  F__law_between : Fun K "_law_between" "_law_between" s__law_between a__law_between d__law_between
  g__law_between : mg "_law_between" = some (.ref a__law_between)
  b__law_between : Binds K d__law_between ["_law_low", "_law_high", "_law_first", "_law_step"] []
  a__law_single : Addr
  d__law_single : FuncData
  F__law_single : Fun K "_law_single" "_law_single" s__law_single a__law_single d__law_single
  g__law_single : mg "_law_single" = some (.ref a__law_single)
  b__law_single : Binds K d__law_single ["_law_weight", "_law_size", "_law_beat"] []
  a__law_double : Addr
  d__law_double : FuncData
  F__law_double : Fun K "_law_double" "_law_double" s__law_double a__law_double d__law_double
  g__law_double : mg "_law_double" = some (.ref a__law_double)
  b__law_double : Binds K d__law_double ["_law_weights_here", "_law_box_here", "_law_beat"] []
  a__law_due : Addr
  d__law_due : FuncData
  F__law_due : Fun K "_law_due" "_law_due" s__law_due a__law_due d__law_due
  g__law_due : mg "_law_due" = some (.ref a__law_due)
  b__law_due : Binds K d__law_due ["_law_weights_here", "_law_box_here", "_law_beat"] []
  a_law : Addr
  d_law : FuncData
  F_law : Fun K "law" "law" s_law a_law d_law
  g_law : mg "law" = some (.ref a_law)
  b_law : Binds K d_law ["_law_script"] []
  m_abs : mg "abs" = Option.none
  m_all : mg "all" = Option.none
  m_enumerate : mg "enumerate" = Option.none
  m_int : mg "int" = Option.none
  m_len : mg "len" = Option.none
  m_list : mg "list" = Option.none
  m_max : mg "max" = Option.none
  m_min : mg "min" = Option.none
  m_range : mg "range" = Option.none
  m_repr : mg "repr" = Option.none
  m_set : mg "set" = Option.none
  m_sorted : mg "sorted" = Option.none
  m_sum : mg "sum" = Option.none
  m_tuple : mg "tuple" = Option.none
  m_zip : mg "zip" = Option.none
theorem hu_of {k : Nat} {A : Around} (r : Room k A) : A.units + 1 < cLine := by
  have := r.un
  omega
/-! ### what is counted -/
def br (p : Prop) [Decidable p] : Int := if p then 1 else 0
def sumN : Nat → (Nat → Int) → Int
  | 0, _ => 0
  | n + 1, f => sumN n f + f n
/-- points of a plane box, of a space box, on the beat -/
def N2 (W V : Nat) (p q b : Int) : Int := sumN W fun i => sumN V fun j => br (p * (i : Int) + q * (j : Int) = b)
def N3 (W V U : Nat) (p q r b : Int) : Int := sumN W fun i => sumN V fun j => sumN U fun k => br (p * (i : Int) + q * (j : Int) + r * (k : Int) = b)
abbrev cI (n : Int) : Cl := .dat (.int n)
abbrev pI (ns : List Int) : List PyData := ns.map PyData.int
/-! ### what each def is asked -/
def ShOk (a b g l r : Int) : Prop := (0 < g ∧ g ≤ 60) ∧ a % g = 0 ∧ b % g = 0 ∧ l * a + r * b = g ∧ (-1000 ≤ l ∧ l ≤ 1000) ∧ (-1000 ≤ r ∧ r ≤ 1000)
def Sm (a : Int) : Prop := -60 ≤ a ∧ a ≤ 60
def Bx (W : Nat) : Prop := 1 ≤ W ∧ W ≤ 1000000000
def shareF : Fsp := fun _ cs post => ∃ a b : Int, cs = [cI a, cI b] ∧ (Sm a ∧ Sm b) ∧ (a ≠ 0 ∨ b ≠ 0) ∧ ∀ g l r, ShOk a b g l r → post (.dat (.tuple ([PyData.int g, PyData.int l, PyData.int r])))
def stLo (x p W : Int) : Int := if 0 < p then -(x / p) else -((W - 1 - x) / (-p))
def stHi (x p W : Int) : Int := if 0 < p then (W - 1 - x) / p else x / (-p)
def stepsF : Fsp := fun _ cs post => ∃ x p W : Int, cs = [cI x, cI p, cI W] ∧ p ≠ 0 ∧ Sm p ∧ post (.dat (.tuple ([PyData.int (stLo x p W), PyData.int (stHi x p W)])))
def stretchF : Fsp := fun _ cs post => ∃ x y p q W V : Int, cs = [.dat (.tuple ([PyData.int W, PyData.int V])), .dat (.tuple ([PyData.int x, PyData.int y])), .dat (.tuple ([PyData.int p, PyData.int q]))] ∧ (p ≠ 0 ∨ q ≠ 0) ∧ (Sm p ∧ Sm q) ∧
  ∀ lo hi : Int, (∀ t : Int, (lo ≤ t ∧ t ≤ hi) ↔ ((0 ≤ x + p * t ∧ x + p * t < W) ∧ (0 ≤ y + q * t ∧ y + q * t < V))) → post (.dat (.tuple ([PyData.int lo, PyData.int hi])))
def prodF : Fsp := fun _ cs post => ∃ W V : Nat, cs = [.dat (.tuple ([PyData.int (W : Int), PyData.int (V : Int)]))] ∧ (Bx W ∧ Bx V) ∧ post (cI ((W : Int) * (V : Int)))
def planeF : Fsp := fun _ cs post => ∃ (W V : Nat) (p q b : Int), cs = [.dat (.tuple ([PyData.int (W : Int), PyData.int (V : Int)])), .dat (.tuple ([PyData.int p, PyData.int q])), cI b] ∧ (Bx W ∧ Bx V) ∧ (Sm p ∧ Sm q) ∧ post (cI (N2 W V p q b))
def countF : Fsp := fun _ cs post => (∃ (W V : Nat) (p q b : Int), cs = [.pt ([PyData.int (W : Int), PyData.int (V : Int)]), .dat (.tuple ([PyData.int p, PyData.int q])), cI b] ∧ (Bx W ∧ Bx V) ∧ (Sm p ∧ Sm q) ∧ post (cI (N2 W V p q b))) ∨
  ∃ (W V U : Nat) (p q r b : Int), cs = [.pt ([PyData.int (W : Int), PyData.int (V : Int), PyData.int (U : Int)]), .dat (.tuple ([PyData.int p, PyData.int q, PyData.int r])), cI b] ∧ (Bx W ∧ Bx V ∧ Bx U) ∧ (Sm p ∧ Sm q ∧ Sm r) ∧ (W ≤ 1000 ∨ V ≤ 1000 ∨ U ≤ 1000) ∧ post (cI (N3 W V U p q r b))
def springF : Fsp := fun _ cs post => ∃ ns : List Int, cs = [.dat (.list (pI ns))] ∧ ∀ g m : Int, (0 ≤ m ∧ m < 2305843009213693951) → post (.own ([PyData.int g, PyData.int m, PyData.int 0]))
def dipF : Fsp := fun R cs post => ∃ (p : Addr) (m : Int), R = Rsp p ∧ cs = [.raw (.ref p), cI m] ∧ (0 < m ∧ m ≤ 1000000) ∧ ∀ k : Int, (0 ≤ k ∧ k < m) → post (cI k)
def pickF : Fsp := fun R cs post => ∃ (p : Addr) (ds : List PyData), R = Rsp p ∧ cs = [.raw (.ref p), .dat (.list ds)] ∧ (ds ≠ [] ∧ ds.length ≤ 1000) ∧ ∀ d ∈ ds, post (.dat d)
def farF : Fsp := fun R cs post => ∃ (p : Addr) (m : Int), R = Rsp p ∧ cs = [.raw (.ref p), cI m] ∧ 0 < m ∧ ∀ k : Int, (1 ≤ k ∧ k ≤ m) → post (cI k)
def gcdF : Fsp := fun _ cs post => ∃ a b : Int, cs = [cI a, cI b] ∧ post (cI (Int.gcd a b : Nat))
def weightsF : Fsp := fun R cs post => ∃ (p : Addr) (d : Int), R = Rsp p ∧ cs = [.raw (.ref p), cI d] ∧ (d = 2 ∨ d = 3) ∧ ∀ ws : List Int, (ws.length : Int) = d → (∀ x ∈ ws, Sm x) → post (.dat (.tuple (pI ws)))
def boxF : Fsp := fun R cs post => ∃ (p : Addr) (d : Int), R = Rsp p ∧ cs = [.raw (.ref p), cI d] ∧ (d = 2 ∨ d = 3) ∧ ∀ ws : List Int, (ws.length : Int) = d → (∀ x ∈ ws, 1 ≤ x ∧ x ≤ (if d = 2 then 8 else 5)) → post (.pt (pI ws))
def greatF : Fsp := fun R cs post => ∃ (p : Addr) (d : Int), R = Rsp p ∧ cs = [.raw (.ref p), cI d] ∧ (d = 2 ∨ d = 3) ∧ ∀ ws : List Int, (ws.length : Int) = d → (∀ x ∈ ws, 1 ≤ x ∧ x ≤ 1000000000) → post (.pt (pI ws))
def dotL : List Int → List Int → Int
  | x :: xs, y :: ys => x * y + dotL xs ys
  | _, _ => 0
def dotF : Fsp := fun _ cs post => ∃ (ws ps : List Int) (c : Cl), cs = [.dat (.tuple (pI ws)), c] ∧ (c = .dat (.list (pI ps)) ∨ c = .dat (.tuple (pI ps))) ∧ ws.length ≤ 1000 ∧ (∀ x ∈ ws, Sm x) ∧ post (cI (dotL ws ps))
def ptsL (bs : List Nat) : List (List Int) := bs.foldl (fun found size => found.flatMap fun a => (List.range size).map fun (i : Nat) => a ++ [(i : Int)]) [[]]
def pointsF : Fsp := fun _ cs post => ∃ bs : List Nat, cs = [.dat (.tuple (pI (bs.map fun (b : Nat) => (b : Int))))] ∧ (bs.length ≤ 3 ∧ ∀ b ∈ bs, b ≤ 8) ∧ post (.dat (.list ((ptsL bs).map fun xs => .tuple (pI xs))))
def betw (lo hi first step : Int) : Int := if hi < lo then 0 else (hi - first) / step - (lo - 1 - first) / step
def betweenF : Fsp := fun _ cs post => ∃ lo hi first step : Int, cs = [cI lo, cI hi, cI first, cI step] ∧ (0 < step ∧ step ≤ 60) ∧ post (cI (betw lo hi first step))
def singleF : Fsp := fun _ cs post => ∃ (p : Int) (W : Nat) (b : Int), cs = [cI p, cI W, cI b] ∧ Bx W ∧ Sm p ∧ post (cI (sumN W fun i => br (p * (i : Int) = b)))
def doubleF : Fsp := fun _ cs post => ∃ (W V : Nat) (p q b : Int), cs = [.dat (.tuple ([PyData.int p, PyData.int q])), .dat (.tuple ([PyData.int (W : Int), PyData.int (V : Int)])), cI b] ∧ (Bx W ∧ Bx V) ∧ (Sm p ∧ Sm q) ∧ post (cI (N2 W V p q b))
def dueF : Fsp := fun _ cs post => (∃ (W V : Nat) (p q b : Int), cs = [.dat (.tuple ([PyData.int p, PyData.int q])), .pt ([PyData.int (W : Int), PyData.int (V : Int)]), cI b] ∧ (Bx W ∧ Bx V) ∧ (Sm p ∧ Sm q) ∧ post (cI (N2 W V p q b))) ∨
  ∃ (W V U : Nat) (p q r b : Int), cs = [.dat (.tuple ([PyData.int p, PyData.int q, PyData.int r])), .pt ([PyData.int (W : Int), PyData.int (V : Int), PyData.int (U : Int)]), cI b] ∧ (Bx W ∧ Bx V ∧ Bx U) ∧ (Sm p ∧ Sm q ∧ Sm r) ∧ (W ≤ 1000 ∨ V ≤ 1000 ∨ U ≤ 1000) ∧ post (cI (N3 W V U p q r b))
def lawF : Fsp := fun R cs post => ∃ ns : List Int, R = Rg.none ∧ cs = [.dat (.list (pI ns))] ∧ post (.dat (.bool true))

theorem cxK {CX : CXT} {P : Program} {w : World} {K : PySem.W.Frag} {mg : Str → Option Value} {base : Heap} {N : List Str} {qual : Str} {scope : Scope} {f : Addr} {cd : Value} {A : Around} {outer : List Env} {s : Shared} {H : Hp} {E : XK} :
    (cxOf CX P w K mg base N qual scope f cd A outer s H E).nox.K = K := rfl
theorem cxK2 {CX : CXT} {P : Program} {w : World} {K : PySem.W.Frag} {mg : Str → Option Value} {base : Heap} {N : List Str} {qual : Str} {scope : Scope} {f : Addr} {cd : Value} {A : Around} {outer : List Env} {s : Shared} {H : Hp} {E : XK} :
    (cxOf CX P w K mg base N qual scope f cd A outer s H E).K = K := rfl
section
variable {P : Prop} {Q : List PyData → Prop} {a b c d e f g h i : PyData}
theorem ex0 (q : Q []) : ∃ ds : List PyData, ([] : List Cl) = ds.map .dat ∧ ds.length ≤ 1000 ∧ Q ds := ⟨[], rfl, by decide, q⟩
theorem ex1 (q : Q [a]) : ∃ ds : List PyData, [Cl.dat a] = ds.map .dat ∧ ds.length ≤ 1000 ∧ Q ds := ⟨[a], rfl, Nat.le_of_ble_eq_true rfl, q⟩
theorem ex2 (q : Q [a, b]) : ∃ ds : List PyData, [Cl.dat a, Cl.dat b] = ds.map .dat ∧ ds.length ≤ 1000 ∧ Q ds := ⟨[a, b], rfl, Nat.le_of_ble_eq_true rfl, q⟩
theorem ex3 (q : Q [a, b, c]) : ∃ ds : List PyData, [Cl.dat a, Cl.dat b, Cl.dat c] = ds.map .dat ∧ ds.length ≤ 1000 ∧ Q ds := ⟨[a, b, c], rfl, Nat.le_of_ble_eq_true rfl, q⟩
theorem ex5 (q : Q [a, b, c, d, e]) : ∃ ds : List PyData, [Cl.dat a, Cl.dat b, Cl.dat c, Cl.dat d, Cl.dat e] = ds.map .dat ∧ ds.length ≤ 1000 ∧ Q ds := ⟨[a, b, c, d, e], rfl, Nat.le_of_ble_eq_true rfl, q⟩
theorem ex6 (q : Q [a, b, c, d, e, f]) : ∃ ds : List PyData, [Cl.dat a, Cl.dat b, Cl.dat c, Cl.dat d, Cl.dat e, Cl.dat f] = ds.map .dat ∧ ds.length ≤ 1000 ∧ Q ds := ⟨[a, b, c, d, e, f], rfl, Nat.le_of_ble_eq_true rfl, q⟩
theorem ex9 (q : Q [a, b, c, d, e, f, g, h, i]) : ∃ ds : List PyData, [Cl.dat a, Cl.dat b, Cl.dat c, Cl.dat d, Cl.dat e, Cl.dat f, Cl.dat g, Cl.dat h, Cl.dat i] = ds.map .dat ∧ ds.length ≤ 1000 ∧ Q ds := ⟨[a, b, c, d, e, f, g, h, i], rfl, Nat.le_of_ble_eq_true rfl, q⟩
theorem nsD (p : P) : (∀ xs, Cl.dat a ≠ .see xs) ∧ P := ⟨fun _ z => by (cases z), p⟩
theorem nsO {ys : List PyData} (p : P) : (∀ xs, Cl.own ys ≠ .see xs) ∧ P := ⟨fun _ z => by (cases z), p⟩
theorem nsR {v : V} (p : P) : (∀ xs, Cl.raw v ≠ .see xs) ∧ P := ⟨fun _ z => by (cases z), p⟩
theorem nsP {ys : List PyData} (p : P) : (∀ xs, Cl.pt ys ≠ .see xs) ∧ P := ⟨fun _ z => by (cases z), p⟩
theorem exB {x : Bool} {R : Bool → Prop} (q : R x) : ∃ y, Cl.dat (.bool x) = .dat (.bool y) ∧ R y := ⟨x, rfl, q⟩
theorem exI {x : Int} {R : Int → Prop} (q : R x) : ∃ y, Cl.dat (.int x) = .dat (.int y) ∧ R y := ⟨x, rfl, q⟩
theorem exD {x : PyData} {R : PyData → Prop} (q : R x) : ∃ y, Cl.dat x = .dat y ∧ R y := ⟨x, rfl, q⟩
theorem exL {x : List PyData} (q : Q x) : ∃ y, Cl.dat (.list x) = .dat (.list y) ∧ Q y := ⟨x, rfl, q⟩
theorem exT {x : List PyData} (q : Q x) : ∃ y, Cl.dat (.tuple x) = .dat (.tuple y) ∧ Q y := ⟨x, rfl, q⟩
theorem exO {x : List PyData} (q : Q x) : ∃ y, Cl.own x = .own y ∧ Q y := ⟨x, rfl, q⟩
theorem ex2D {R : PyData → PyData → Prop} (q : R a b) : ∃ x y, [Cl.dat a, Cl.dat b] = [Cl.dat x, Cl.dat y] ∧ R x y := ⟨a, b, rfl, q⟩
end
def iAt (δ : DSl) (i : Nat) : Int := match δ[i]? with
  | some (some (.dat (.int s))) => s
  | _ => 0
theorem fmod_lt (f s : Int) (h : s ≠ 0) : (f - f.fdiv s * s).natAbs < s.natAbs := by
  have e : f - f.fdiv s * s = f.fmod s := by
    have := Int.fmod_def f s
    rw [this, Int.mul_comm]
  rw [e, Int.fmod_eq_emod]
  have h2 := Int.emod_nonneg f h
  have h3 := Int.emod_lt f h
  split
  · omega
  · rename_i hc
    have hd : ¬ s ∣ f := fun z => hc (.inr z)
    have h4 : f % s ≠ 0 := fun z => hd (Int.dvd_of_emod_eq_zero z)
    omega
def shOut (f l0 l1 : Int) : Int × Int × Int := if f < 0 then (-f, -l0, -l1) else (f, l0, l1)
def shM : Nat → Int → Int → Int → Int → Int → Int → Option (Int × Int × Int)
  | 0, _, _, _, _, _, _ => Option.none
  | n + 1, f, s, l0, l1, r0, r1 => if s = 0 then some (shOut f l0 l1) else
    if s.natAbs ≤ 100 ∧ (f.fdiv s).natAbs ≤ 100 then shM n s (f - f.fdiv s * s) r0 r1 (l0 - f.fdiv s * r0) (l1 - f.fdiv s * r1) else Option.none
def shChk (a b : Int) : Bool := (decide (a = 0) && decide (b = 0)) || match shM 70 a b 1 0 0 1 with
  | some (g, l, r) => decide (0 < g) && decide (g ≤ 60) && decide (a % g = 0) && decide (b % g = 0) && decide (l * a + r * b = g) && decide (-1000 ≤ l) && decide (l ≤ 1000) && decide (-1000 ≤ r) && decide (r ≤ 1000)
  | Option.none => false
theorem shAll : (List.range 121).all (fun i => (List.range 121).all fun j => shChk ((i : Int) - 60) ((j : Int) - 60)) = true := by decide +kernel
theorem shGood {a b : Int} (ha : Sm a) (hb : Sm b) (hn : a ≠ 0 ∨ b ≠ 0) : ∃ g l r, shM 70 a b 1 0 0 1 = some (g, l, r) ∧ ShOk a b g l r := by
  have h1 := ha.1
  have h2 := ha.2
  have h3 := hb.1
  have h4 := hb.2
  have h := List.all_eq_true.mp (List.all_eq_true.mp shAll (a + 60).toNat (List.mem_range.mpr (by omega))) (b + 60).toNat (List.mem_range.mpr (by omega))
  have e1 : (((a + 60).toNat : Nat) : Int) - 60 = a := by omega
  have e2 : (((b + 60).toNat : Nat) : Int) - 60 = b := by omega
  rw [e1, e2] at h
  unfold shChk at h
  rcases Bool.or_eq_true _ _ |>.mp h with h | h
  · simp at h
    omega
  · cases e : shM 70 a b 1 0 0 1 with
    | none =>
      rw [e] at h
      cases h
    | some x =>
      obtain ⟨g, l, r⟩ := x
      rw [e] at h
      simp only [Bool.and_eq_true, decide_eq_true_eq] at h
      obtain ⟨⟨⟨⟨⟨⟨⟨⟨a1, a2⟩, a3⟩, a4⟩, a5⟩, a6⟩, a7⟩, a8⟩, a9⟩ := h
      exact ⟨g, l, r, rfl, ⟨a1, a2⟩, a3, a4, a5, ⟨a6, a7⟩, a8, a9⟩

/-! the counting, in plain numbers -/
open Classical in
noncomputable def brc (p : Prop) : Int := if p then 1 else 0
theorem br_brc (p : Prop) [d : Decidable p] : br p = brc p := by
  unfold br brc
  by_cases h : p <;> simp [h]
theorem brc_congr {p q : Prop} (h : p ↔ q) : brc p = brc q := by
  rw [propext h]
theorem brc_true {p : Prop} (h : p) : brc p = 1 := by
  unfold brc
  simp [h]
theorem brc_false {p : Prop} (h : ¬ p) : brc p = 0 := by
  unfold brc
  simp [h]
theorem brc_or {p q : Prop} (h : ¬ (p ∧ q)) : brc (p ∨ q) = brc p + brc q := by
  by_cases hp : p
  · by_cases hq : q
    · exact (h ⟨hp, hq⟩).elim
    · rw [brc_true (Or.inl hp), brc_true hp, brc_false hq]; rfl
  · by_cases hq : q
    · rw [brc_true (Or.inr hq), brc_true hq, brc_false hp]; rfl
    · rw [brc_false (fun z => z.elim hp hq), brc_false hp, brc_false hq]; rfl
theorem br_le (p : Prop) [Decidable p] : 0 ≤ br p ∧ br p ≤ 1 := by
  unfold br
  split <;> omega
theorem sum_congr {f g : Nat → Int} : ∀ {n : Nat}, (∀ i, i < n → f i = g i) → sumN n f = sumN n g
  | 0, _ => rfl
  | n + 1, h => by
    unfold sumN
    rw [sum_congr (n := n) fun i hi => h i (Nat.lt_succ_of_lt hi), h n (Nat.lt_succ_self n)]
theorem sum_add (f g : Nat → Int) : ∀ n : Nat, sumN n (fun i => f i + g i) = sumN n f + sumN n g
  | 0 => rfl
  | n + 1 => by
    unfold sumN
    rw [sum_add f g n]
    show sumN n f + sumN n g + (f n + g n) = sumN n f + f n + (sumN n g + g n)
    omega
theorem sum_const (c : Int) : ∀ n : Nat, sumN n (fun _ => c) = n * c
  | 0 => by simp [sumN]
  | n + 1 => by
    unfold sumN
    rw [sum_const c n]
    grind
theorem sum_mul (c : Int) (f : Nat → Int) : ∀ n : Nat, sumN n (fun i => c * f i) = c * sumN n f
  | 0 => by simp [sumN]
  | n + 1 => by
    unfold sumN
    rw [sum_mul c f n, Int.mul_add]
theorem sum_le {f : Nat → Int} {c : Int} (hc : 0 ≤ c) : ∀ {n : Nat}, (∀ i, i < n → 0 ≤ f i ∧ f i ≤ c) → 0 ≤ sumN n f ∧ sumN n f ≤ n * c
  | 0, _ => by simp [sumN]
  | n + 1, h => by
    have ih := sum_le hc (n := n) fun i hi => h i (Nat.lt_succ_of_lt hi)
    have hl := h n (Nat.lt_succ_self n)
    unfold sumN
    have e : ((n + 1 : Nat) : Int) * c = n * c + c := by grind
    rw [e]
    omega
theorem sum_comm (f : Nat → Nat → Int) (m : Nat) : ∀ n : Nat, sumN n (fun i => sumN m (f i)) = sumN m (fun j => sumN n fun i => f i j)
  | 0 => by
    show 0 = sumN m fun _ => 0
    rw [sum_const]
    simp
  | n + 1 => by
    show sumN n (fun i => sumN m (f i)) + sumN m (f n) = sumN m (fun j => sumN n (fun i => f i j) + f n j)
    rw [sum_add, sum_comm f m n]
theorem sum_zero {f : Nat → Int} {n : Nat} (h : ∀ i, i < n → f i = 0) : sumN n f = 0 := by
  rw [sum_congr (g := fun _ => 0) h, sum_const]
  simp
theorem sum_one {a : Int} : ∀ {n : Nat}, 0 ≤ a → a < n → sumN n (fun i => brc ((i : Int) = a)) = 1
  | 0, h0, h1 => by omega
  | n + 1, h0, h1 => by
    show sumN n (fun i => brc ((i : Int) = a)) + brc ((n : Int) = a) = 1
    by_cases h : (n : Int) = a
    · rw [brc_true h, sum_zero fun i hi => brc_false (by omega)]
      rfl
    · rw [brc_false h, sum_one h0 (by omega)]
      rfl
theorem brc_and {p q : Prop} : brc (p ∧ q) = brc p * brc q := by
  by_cases hp : p
  · by_cases hq : q
    · rw [brc_true ⟨hp, hq⟩, brc_true hp, brc_true hq]; rfl
    · rw [brc_false (fun z : p ∧ q => hq z.2), brc_false hq]; simp
  · rw [brc_false (fun z : p ∧ q => hp z.1), brc_false hp]; simp
theorem sum_point {W V : Nat} {a c : Int} (ha : 0 ≤ a ∧ a < W) (hc : 0 ≤ c ∧ c < V) : sumN W (fun i => sumN V fun j => brc ((i : Int) = a ∧ (j : Int) = c)) = 1 := by
  rw [sum_congr (g := fun i => brc ((i : Int) = a)) fun i _ => ?_]
  · exact sum_one ha.1 ha.2
  · rw [sum_congr (g := fun j => brc ((i : Int) = a) * brc ((j : Int) = c)) fun j _ => brc_and, sum_mul, sum_one hc.1 hc.2, Int.mul_one]
theorem line_run {W V : Nat} (f g : Int → Int) (inj : ∀ t u, f t = f u → g t = g u → t = u) (lo : Int) : ∀ n : Nat, (∀ t, lo ≤ t → t < lo + n → (0 ≤ f t ∧ f t < W) ∧ 0 ≤ g t ∧ g t < V) →
    sumN W (fun i => sumN V fun j => brc (∃ t, (lo ≤ t ∧ t < lo + n) ∧ (i : Int) = f t ∧ (j : Int) = g t)) = n
  | 0, _ => by
    refine sum_zero fun i _ => sum_zero fun j _ => brc_false ?_
    rintro ⟨t, h, _⟩
    omega
  | n + 1, h => by
    have ih := line_run f g inj lo n fun t h1 h2 => h t h1 (by omega)
    have hp := h (lo + n) (by omega) (by omega)
    have e : ∀ (i j : Nat), brc (∃ t, (lo ≤ t ∧ t < lo + (n + 1 : Nat)) ∧ (i : Int) = f t ∧ (j : Int) = g t) = brc (∃ t, (lo ≤ t ∧ t < lo + n) ∧ (i : Int) = f t ∧ (j : Int) = g t) + brc ((i : Int) = f (lo + n) ∧ (j : Int) = g (lo + n)) := fun i j => by
      rw [← brc_or]
      · refine brc_congr ⟨?_, ?_⟩
        · rintro ⟨t, ⟨h1, h2⟩, h3⟩
          by_cases ht : t = lo + n
          · exact .inr (by rw [← ht]; exact h3)
          · exact .inl ⟨t, ⟨h1, by omega⟩, h3⟩
        · rintro (⟨t, ⟨h1, h2⟩, h3⟩ | h3)
          · exact ⟨t, ⟨h1, by omega⟩, h3⟩
          · exact ⟨lo + n, ⟨by omega, by omega⟩, h3⟩
      · rintro ⟨⟨t, ⟨h1, h2⟩, h3, h4⟩, h5, h6⟩
        have := inj t (lo + n) (by rw [← h3, h5]) (by rw [← h4, h6])
        omega
    rw [sum_congr (g := fun i => sumN V (fun j => brc (∃ t, (lo ≤ t ∧ t < lo + n) ∧ (i : Int) = f t ∧ (j : Int) = g t)) + sumN V (fun j => brc ((i : Int) = f (lo + n) ∧ (j : Int) = g (lo + n)))) fun i _ => by rw [sum_congr fun j _ => e i j, sum_add], sum_add, ih, sum_point hp.1 hp.2]
    rfl
theorem N2_line {W V : Nat} {p q b lo hi : Int} (f g : Int → Int) (inj : ∀ t u, f t = f u → g t = g u → t = u)
    (h : ∀ i j : Int, (0 ≤ i ∧ i < W) → (0 ≤ j ∧ j < V) → (p * i + q * j = b ↔ ∃ t, (lo ≤ t ∧ t ≤ hi) ∧ i = f t ∧ j = g t)) (box : ∀ t, lo ≤ t → t ≤ hi → (0 ≤ f t ∧ f t < W) ∧ 0 ≤ g t ∧ g t < V) : N2 W V p q b = max 0 (hi - lo + 1) := by
  have e : ∀ t : Int, (lo ≤ t ∧ t < lo + ((hi - lo + 1).toNat : Nat)) ↔ (lo ≤ t ∧ t ≤ hi) := fun t => by omega
  have r := line_run (W := W) (V := V) f g inj lo (hi - lo + 1).toNat fun t h1 h2 => box t h1 ((e t).mp ⟨h1, h2⟩).2
  have e2 : N2 W V p q b = sumN W (fun i => sumN V fun j => brc (∃ t, (lo ≤ t ∧ t < lo + ((hi - lo + 1).toNat : Nat)) ∧ (i : Int) = f t ∧ (j : Int) = g t)) := by
    unfold N2
    refine sum_congr fun i hi' => sum_congr fun j hj => ?_
    rw [br_brc]
    refine brc_congr ((h i j ⟨by omega, by omega⟩ ⟨by omega, by omega⟩).trans ⟨?_, ?_⟩)
    · rintro ⟨t, h1, h2⟩
      exact ⟨t, (e t).mpr h1, h2⟩
    · rintro ⟨t, h1, h2⟩
      exact ⟨t, (e t).mp h1, h2⟩
  rw [e2, r]
  omega
theorem N2_none {W V : Nat} {p q b : Int} (h : ∀ i j : Int, (0 ≤ i ∧ i < W) → (0 ≤ j ∧ j < V) → p * i + q * j ≠ b) : N2 W V p q b = 0 := by
  unfold N2
  refine sum_zero fun i hi => sum_zero fun j hj => ?_
  rw [br_brc]
  exact brc_false (h i j ⟨by omega, by omega⟩ ⟨by omega, by omega⟩)
theorem N2_flat (W V : Nat) (b : Int) : N2 W V 0 0 b = if b = 0 then (W : Int) * V else 0 := by
  by_cases h : b = 0
  · rw [if_pos h]
    unfold N2
    rw [sum_congr (g := fun _ => (V : Int)) fun i _ => ?_, sum_const]
    rw [sum_congr (g := fun _ => 1) fun j _ => ?_, sum_const, Int.mul_one]
    rw [br_brc]
    exact brc_true (by omega)
  · rw [if_neg h]
    exact N2_none fun i j _ _ => by omega
theorem N2_bound (W V : Nat) (p q b : Int) : 0 ≤ N2 W V p q b ∧ N2 W V p q b ≤ (W : Int) * V := by
  unfold N2
  have := sum_le (f := fun i => sumN V fun j => br (p * (i : Int) + q * (j : Int) = b)) (c := (V : Int)) (by omega) (n := W) fun i _ => by
    have := sum_le (f := fun j => br (p * (i : Int) + q * (j : Int) = b)) (c := 1) (by omega) (n := V) fun j _ => br_le _
    rw [Int.mul_one] at this
    exact this
  exact this
theorem N2_swap (W V : Nat) (p q b : Int) : N2 W V p q b = N2 V W q p b := by
  unfold N2
  rw [sum_comm]
  refine sum_congr fun j _ => sum_congr fun i _ => ?_
  rw [br_brc, br_brc]
  exact brc_congr (by rw [Int.add_comm])
/-- the plane's count along one line -/
theorem N2_plane {W V : Nat} {p q b g l r lo hi : Int} (ok : ShOk p q g l r) (nz : p ≠ 0 ∨ q ≠ 0) (hb : b % g = 0)
    (h : ∀ t : Int, (lo ≤ t ∧ t ≤ hi) ↔ ((0 ≤ l * (b / g) + q / g * t ∧ l * (b / g) + q / g * t < W) ∧ (0 ≤ r * (b / g) + -(p / g) * t ∧ r * (b / g) + -(p / g) * t < V))) :
    N2 W V p q b = max 0 (hi - lo + 1) := by
  obtain ⟨⟨g0, _⟩, gp, gq, bez, _, _⟩ := ok
  have ep : p = g * (p / g) := by have := Int.emod_add_mul_ediv p g; omega
  have eq : q = g * (q / g) := by have := Int.emod_add_mul_ediv q g; omega
  have eb : b = g * (b / g) := by have := Int.emod_add_mul_ediv b g; omega
  generalize p / g = P at *
  generalize q / g = Q at *
  generalize b / g = B at *
  have one : l * P + r * Q = 1 := by
    have : g * (l * P + r * Q) = g * 1 := by rw [ep, eq] at bez; grind
    exact Int.eq_of_mul_eq_mul_left (by omega) this
  refine N2_line (lo := lo) (hi := hi) (fun t => l * B + Q * t) (fun t => r * B + -P * t) (fun t u h1 h2 => ?_) (fun i j hi' hj => ⟨fun e => ?_, ?_⟩) fun t h1 h2 => (h t).mp ⟨h1, h2⟩
  · have a1 : Q * (t - u) = 0 := by grind
    have a2 : P * (t - u) = 0 := by grind
    have a3 : t - u = (l * P + r * Q) * (t - u) := by rw [one, Int.one_mul]
    have a4 : (l * P + r * Q) * (t - u) = 0 := by grind
    omega
  · have e' : P * i + Q * j = B := by
      have : g * (P * i + Q * j) = g * B := by grind
      exact Int.eq_of_mul_eq_mul_left (by omega) this
    have e1 : i = l * B + Q * (r * i - l * j) := by grind
    have e2 : j = r * B + -P * (r * i - l * j) := by grind
    exact ⟨r * i - l * j, (h _).mpr (by rw [← e1, ← e2]; exact ⟨hi', hj⟩), e1, e2⟩
  · rintro ⟨t, _, e1, e2⟩
    have e' : P * i + Q * j = B := by
      rw [e1, e2]
      grind
    rw [ep, eq, eb, ← e']
    grind
theorem N2_off {W V : Nat} {p q b g l r : Int} (ok : ShOk p q g l r) (hb : ¬ b % g = 0) : N2 W V p q b = 0 := by
  obtain ⟨⟨g0, _⟩, gp, gq, _⟩ := ok
  refine N2_none fun i j _ _ e => hb ?_
  have d1 : g ∣ p := Int.dvd_of_emod_eq_zero gp
  have d2 : g ∣ q := Int.dvd_of_emod_eq_zero gq
  rw [← e]
  exact Int.emod_eq_zero_of_dvd (Int.dvd_add (Int.dvd_mul_of_dvd_left d1) (Int.dvd_mul_of_dvd_left d2))

/-! the law's own count in the plane -/
theorem step_facts {p q : Int} (hp : Sm p) (hq : Sm q) (nz : q ≠ 0) : ∃ st : Int, ((q.natAbs : Int) / (Int.gcd p q : Nat)) = st ∧ (0 < (Int.gcd p q : Nat) ∧ (Int.gcd p q : Nat) ≤ 60) ∧ (0 < st ∧ st ≤ 60) ∧ q ∣ p * st ∧ ∀ x, q ∣ p * x → st ∣ x := by
  obtain ⟨g, l, r, _, ⟨g0, g60⟩, gp, gq, bez, _, _⟩ := shGood hp hq (.inr nz)
  have d1 : g ∣ p := Int.dvd_of_emod_eq_zero gp
  have d2 : g ∣ q := Int.dvd_of_emod_eq_zero gq
  have e : ((Int.gcd p q : Nat) : Int) = g := by
    apply Int.dvd_antisymm (by omega) (by omega)
    · rw [← bez]
      exact Int.dvd_add (Int.dvd_mul_of_dvd_right (Int.gcd_dvd_left ..)) (Int.dvd_mul_of_dvd_right (Int.gcd_dvd_right ..))
    · exact Int.dvd_coe_gcd d1 d2
  obtain ⟨Q, rfl⟩ := d2
  obtain ⟨P, rfl⟩ := d1
  have hQ : Q ≠ 0 := fun z => nz (by rw [z, Int.mul_zero])
  have eq : (((g * Q).natAbs : Int)) = g * (Q.natAbs : Int) := by
    rw [Int.natAbs_mul]
    have : ((g.natAbs : Nat) : Int) = g := by omega
    rw [Int.natCast_mul, this]
  rw [e, eq]
  have e2 : g * (Q.natAbs : Int) / g = (Q.natAbs : Int) := Int.mul_ediv_cancel_left _ (by omega)
  refine ⟨_, e2, by omega, ⟨by omega, ?_⟩, ?_, fun x hx => ?_⟩
  · have : g * (Q.natAbs : Int) ≤ 60 := by
      rw [← eq]
      obtain ⟨z1, z2⟩ := hq
      omega
    have h1 : (1 : Int) * (Q.natAbs : Int) ≤ g * (Q.natAbs : Int) := Int.mul_le_mul_of_nonneg_right (by omega) (by omega)
    omega
  · have : Q ∣ (Q.natAbs : Int) := Int.dvd_natAbs_self
    obtain ⟨c, hc⟩ := this
    exact ⟨P * c, by rw [hc]; grind⟩
  · obtain ⟨c, hc⟩ := hx
    have one : l * P + r * Q = 1 := by
      have : g * (l * P + r * Q) = g * 1 := by grind
      exact Int.eq_of_mul_eq_mul_left (by omega) this
    have h2 : P * x = Q * c := by
      have : g * (P * x) = g * (Q * c) := by grind
      exact Int.eq_of_mul_eq_mul_left (by omega) this
    have h3 : x = Q * (l * c + r * x) := by grind
    exact Int.natAbs_dvd.mpr ⟨_, h3⟩
def lowD (p L U : Int) : Int := 0 - (0 - (if p < 0 then 0 - U else L)) / (p.natAbs : Int)
def highD (p L U : Int) : Int := (if p < 0 then 0 - L else U) / (p.natAbs : Int)
theorem ends_iff {p L U i : Int} (hp : p ≠ 0) : (lowD p L U ≤ i ∧ i ≤ highD p L U) ↔ (L ≤ p * i ∧ p * i ≤ U) := by
  unfold lowD highD
  have h0 : (0 : Int) < (p.natAbs : Int) := by omega
  by_cases h : p < 0
  · rw [if_pos h, if_pos h]
    have en : (p.natAbs : Int) = -p := by omega
    rw [en] at h0 ⊢
    have a1 : (-i ≤ (0 - (0 - U)) / -p) ↔ (-i) * -p ≤ 0 - (0 - U) := Int.le_ediv_iff_mul_le h0
    have a2 : (i ≤ (0 - L) / -p) ↔ i * -p ≤ 0 - L := Int.le_ediv_iff_mul_le h0
    have e1 : (-i) * -p = p * i := by rw [Int.neg_mul_neg, Int.mul_comm]
    have e2 : i * -p = -(p * i) := by rw [Int.mul_neg, Int.mul_comm]
    rw [e1] at a1
    rw [e2] at a2
    constructor
    · rintro ⟨b1, b2⟩
      have := a1.mp (by omega)
      have := a2.mp b2
      omega
    · rintro ⟨b1, b2⟩
      have := a1.mpr (by omega)
      have := a2.mpr (by omega)
      omega
  · rw [if_neg h, if_neg h]
    have en : (p.natAbs : Int) = p := by omega
    rw [en] at h0 ⊢
    have a1 : (-i ≤ (0 - L) / p) ↔ (-i) * p ≤ 0 - L := Int.le_ediv_iff_mul_le h0
    have a2 : (i ≤ U / p) ↔ i * p ≤ U := Int.le_ediv_iff_mul_le h0
    have e1 : (-i) * p = -(p * i) := by rw [Int.neg_mul, Int.mul_comm]
    have e2 : i * p = p * i := Int.mul_comm _ _
    rw [e1] at a1
    rw [e2] at a2
    constructor
    · rintro ⟨b1, b2⟩
      have := a1.mp (by omega)
      have := a2.mp b2
      omega
    · rintro ⟨b1, b2⟩
      have := a1.mpr (by omega)
      have := a2.mpr (by omega)
      omega
/-- q j = x with 0 ≤ j < V, by the ends -/
theorem col_iff {q x j : Int} {V : Nat} (hq : q ≠ 0) (hx : q * j = x) (b : Int) : (0 ≤ j ∧ j < V) ↔ (min b (b - q * ((V : Int) - 1)) ≤ b - x ∧ b - x ≤ max b (b - q * ((V : Int) - 1))) ∧ 0 < V := by
  subst hx
  rcases Int.lt_or_gt_of_ne hq with h | h
  · constructor
    · rintro ⟨h1, h2⟩
      have a1 : q * j ≤ q * 0 := Int.mul_le_mul_of_nonpos_left (by omega) h1
      have a2 : q * ((V : Int) - 1) ≤ q * j := Int.mul_le_mul_of_nonpos_left (by omega) (by omega)
      omega
    · rintro ⟨⟨h1, h2⟩, h3⟩
      have z0 : q * ((V : Int) - 1) ≤ q * 0 := Int.mul_le_mul_of_nonpos_left (by omega) (by omega)
      constructor
      · apply Classical.byContradiction
        intro hn
        have : q * 0 < q * j := Int.mul_lt_mul_of_neg_left (by omega) h
        omega
      · apply Classical.byContradiction
        intro hn
        have : q * j < q * ((V : Int) - 1) := Int.mul_lt_mul_of_neg_left (by omega) h
        omega
  · constructor
    · rintro ⟨h1, h2⟩
      have a1 : q * 0 ≤ q * j := Int.mul_le_mul_of_nonneg_left h1 (by omega)
      have a2 : q * j ≤ q * ((V : Int) - 1) := Int.mul_le_mul_of_nonneg_left (by omega) (by omega)
      omega
    · rintro ⟨⟨h1, h2⟩, h3⟩
      have z0 : q * 0 ≤ q * ((V : Int) - 1) := Int.mul_le_mul_of_nonneg_left (by omega) (by omega)
      constructor
      · apply Classical.byContradiction
        intro hn
        have : q * j < q * 0 := Int.mul_lt_mul_of_pos_left (by omega) h
        omega
      · apply Classical.byContradiction
        intro hn
        have : q * ((V : Int) - 1) < q * j := Int.mul_lt_mul_of_pos_left (by omega) h
        omega
theorem N2_double {W V : Nat} {p q b f st : Int} (hW : 0 < V) (hp : p ≠ 0) (hq : q ≠ 0) (s0 : 0 < st) (sA : q ∣ p * st) (sB : ∀ x, q ∣ p * x → st ∣ x) (hf : q ∣ b - p * f) {L U : Int} (hL : L = min b (b - q * ((V : Int) - 1))) (hU : U = max b (b - q * ((V : Int) - 1))) :
    betw (max 0 (lowD p L U)) (min ((W : Int) - 1) (highD p L U)) f st = N2 W V p q b := by
  generalize hlo : max 0 (lowD p L U) = lo
  generalize hhi : min ((W : Int) - 1) (highD p L U) = hi
  have rng : ∀ i : Int, (lo ≤ i ∧ i ≤ hi) ↔ ((0 ≤ i ∧ i < W) ∧ (L ≤ p * i ∧ p * i ≤ U)) := fun i => by
    rw [← ends_iff hp, ← hlo, ← hhi]
    omega
  have tlo : ∀ t : Int, ((lo - 1 - f) / st + 1 ≤ t) ↔ lo ≤ f + st * t := fun t => by
    have := Int.ediv_lt_iff_lt_mul s0 (a := lo - 1 - f) (b := t)
    rw [Int.mul_comm t st] at this
    omega
  have thi : ∀ t : Int, (t ≤ (hi - f) / st) ↔ f + st * t ≤ hi := fun t => by
    have := Int.le_ediv_iff_mul_le s0 (a := t) (b := hi - f)
    rw [Int.mul_comm t st] at this
    omega
  have dv : ∀ t : Int, q * ((b - p * (f + st * t)) / q) = b - p * (f + st * t) := fun t => by
    apply Int.mul_ediv_cancel'
    have : b - p * (f + st * t) = (b - p * f) - p * st * t := by grind
    rw [this]
    exact Int.dvd_sub hf (Int.dvd_mul_of_dvd_left sA)
  have main := N2_line (W := W) (V := V) (p := p) (q := q) (b := b) (lo := (lo - 1 - f) / st + 1) (hi := (hi - f) / st) (fun t => f + st * t) (fun t => (b - p * (f + st * t)) / q) (fun t u h1 _ => by
    have : st * (t - u) = 0 := by grind
    rcases Int.mul_eq_zero.mp this with z | z
    · omega
    · omega) (fun i j hi' hj => ⟨fun e => ?_, ?_⟩) fun t h1 h2 => ?_
  · rw [main]
    unfold betw
    by_cases h : hi < lo
    · rw [if_pos h]
      have : (hi - f) / st ≤ (lo - 1 - f) / st := Int.ediv_le_ediv s0 (by omega)
      omega
    · rw [if_neg h]
      have : (lo - 1 - f) / st ≤ (hi - f) / st := Int.ediv_le_ediv s0 (by omega)
      omega
  · have d : q ∣ p * (i - f) := by
      have : p * (i - f) = (b - p * f) - q * j := by grind
      rw [this]
      exact Int.dvd_sub hf (Int.dvd_mul_right q j)
    obtain ⟨t, ht⟩ := sB _ d
    have ei : i = f + st * t := by omega
    have ej : q * j = b - p * i := by omega
    have c := (col_iff (V := V) hq ej b).mp hj
    have r := (rng i).mpr ⟨hi', by rw [hL, hU]; omega⟩
    refine ⟨t, ⟨(tlo t).mpr (by omega), (thi t).mpr (by omega)⟩, ei, ?_⟩
    show j = (b - p * (f + st * t)) / q
    rw [← ei, ← ej, Int.mul_ediv_cancel_left _ hq]
  · rintro ⟨t, _, e1, e2⟩
    have e1 : i = f + st * t := e1
    have e2 : j = (b - p * (f + st * t)) / q := e2
    have := dv t
    rw [← e2, ← e1] at this
    omega
  · have r := (rng (f + st * t)).mp ⟨(tlo t).mp h1, (thi t).mp h2⟩
    refine ⟨r.1, ?_⟩
    have c := (col_iff (V := V) hq (dv t) b).mpr ⟨by rw [← hL, ← hU]; omega, hW⟩
    exact c
theorem N2_col0 (W V : Nat) (p b : Int) : N2 W V p 0 b = (V : Int) * sumN W fun i => br (p * (i : Int) = b) := by
  unfold N2
  rw [← sum_mul]
  refine sum_congr fun i _ => ?_
  rw [sum_congr (g := fun _ => br (p * (i : Int) = b)) fun j _ => ?_, sum_const]
  rw [br_brc, br_brc]
  exact brc_congr (by omega)
theorem N2_row0 (W V : Nat) (q b : Int) : N2 W V 0 q b = (W : Int) * sumN V fun i => br (q * (i : Int) = b) := by
  rw [N2_swap, N2_col0]
/-- where the law's starts stand -/
def stL (p q b : Int) : List Int := ((List.range q.natAbs).map fun (i : Nat) => (i : Int)).filter fun i => decide ((b - p * i).fdiv q * q = b - p * i)
theorem stL_dvd {p q b i : Int} (h : i ∈ stL p q b) : q ∣ b - p * i := by
  have := of_decide_eq_true (List.mem_filter.mp h).2
  exact ⟨_, by rw [Int.mul_comm q]; exact this.symm⟩
theorem fdiv_mul' {p i : Int} (hp : p ≠ 0) : (p * i).fdiv p * p = p * i := by
  rw [Int.mul_comm p i, Int.mul_fdiv_cancel _ hp]
theorem stL_none {W V : Nat} {p q b : Int} (hq : q ≠ 0) (h : stL p q b = []) : N2 W V p q b = 0 := by
  refine N2_none fun i j _ _ e => ?_
  have hm : i % q ∈ stL p q b := by
    refine List.mem_filter.mpr ⟨List.mem_map.mpr ⟨(i % q).toNat, List.mem_range.mpr ?_, ?_⟩, decide_eq_true ?_⟩
    · have h1 := Int.emod_nonneg i hq
      have h2 := Int.emod_lt i hq
      omega
    · have h1 := Int.emod_nonneg i hq
      omega
    · have e2 : b - p * (i % q) = q * (j + p * (i / q)) := by
        have := Int.emod_add_mul_ediv i q
        grind
      rw [e2]
      exact fdiv_mul' hq
  rw [h] at hm
  cases hm

local macro_rules | `(tactic| walk_at "ev") => `(tactic| first
  | (with_reducible first
      | refine ew_op ?_
      | refine rw_I0 ?_
      | refine ew_int ?_
      | refine rw_eqI ?_
      | refine rw_neI ?_
      | refine rw_B0 ?_
      | refine uw_I ?_
      | refine aw_cons ?_
      | refine aw_nil ?_
      | refine ew_cb ?_
      | refine ew_call ?_
      | refine ew_tup ?_
      | refine ew_tupF ?_
      | refine ew_un ?_
      | refine tw_test ?_
      | refine tw_B ?_
      | refine tw_yes ?_
      | refine tw_and ?_
      | refine tw_or ?_
      | refine tw_not ?_
      | refine ew_if ?_
      | refine ew_andV ?_
      | refine ew_orV ?_
      | refine ew_notV ?_
      | refine ew_chain ?_
      | refine ew_sl ?_
      | refine ow_no ?_
      | refine ow_part ?_
      | refine ew_bl ?_
      | refine ew_str ?_
      | refine ew_non ?_
      | refine slw_tup ?_
      | refine sw_seq ?_
      | refine sw_asg ?_
      | refine sw_if ?_
      | refine sw_ret ?_
      | refine sw_next ?_
      | refine sw_drop ?_
      | refine sw_retN ?_
      | refine gsw_cons ?_
      | refine gsw_nil ?_
      | refine cw_int ?_
      | refine cw_intB ?_
      | refine cw_abs ?_
      | refine cw_min2 ?_
      | refine cw_max2 ?_
      | refine iw_rng1 ?_
      | refine iw_rng2 ?_
      | refine iw_list ?_
      | refine iw_tup ?_
      | refine iw_z2 ?_
      | refine iw_en ?_
      | refine rw_I ?_ ?_
      | refine ex0 ?_
      | refine ex1 ?_
      | refine ex2 ?_
      | refine ex3 ?_
      | refine ex5 ?_
      | refine ex6 ?_
      | refine ex9 ?_
      | refine nsD ?_
      | refine nsO ?_
      | refine nsR ?_
      | refine nsP ?_
      | refine exB ?_
      | refine exI ?_
      | refine exD ?_
      | refine exL ?_
      | refine exT ?_
      | refine exO ?_
      | refine ex2D ?_
      | fail)
  | ((with_reducible apply ew_var); (focus exact rfl))
  | ((with_reducible apply ew_raw); (focus exact rfl))
  | ((with_reducible apply ew_ptd); (focus exact rfl))
  | ((with_reducible apply rw_ixT); (focus exact rfl))
  | ((with_reducible apply gw_name); (focus decide))
  | ((with_reducible apply gw_tup); (focus rfl)))

def shPv (a b : Int) (x : Int × Int × Int) (δ : DSl) : Prop := ∃ (n : Nat) (f s l0 l1 r0 r1 : Int) (m : Option Cl), δ = [some (cI a), some (cI b), some (cI f), some (cI s), some (.dat (.tuple ([PyData.int l0, PyData.int l1]))), some (.dat (.tuple ([PyData.int r0, PyData.int r1]))), m] ∧ shM n f s l0 l1 r0 r1 = some x
section
variable {P : Program} {w : World} {K : PySem.W.Frag} {mg : Str → Option Value} {base : Heap} (T : Tp K mg)
theorem ok_share : FnOk P w K mg base CX0 1 T.a_share T.d_share ["one", "other"] (spD K shareF) := by
  refine fn_ok T.F_share sc_share (fun R cs post ⟨a, b, e, _⟩ => by rw [e]; rfl) fun cdv A outer s H E hr => ⟨_, (pss_cons (ps_par (i := 2) (j := 3) rfl sc_share.nd rfl rfl (by decide) rfl rfl (pa_cons (pv 0) (pa_cons (pv 1) pa_nil)) (by rfl))
    (pss_cons (ps_asg (pe_tup (pa_cons (pe_tup (pa_cons pe_int (pa_cons pe_int pa_nil))) (pa_cons (pe_tup (pa_cons pe_int (pa_cons pe_int pa_nil))) pa_nil))) (pg_tup (by rfl) (pgs_cons (pg_name (i := 4) sc_share.nd rfl (Or.inl rfl)) (pgs_cons (pg_name (i := 5) sc_share.nd rfl (Or.inl rfl)) pgs_nil))))
    (pss_cons (ps_while PassesOwn.never (pt_cmpR op_ne (pv 3) pe_int (nomark _))
      (pss_cons (ps_set (i := 6) sc_share.nd rfl (Or.inl rfl) (pe_op op_fdivN (pv 2) (pv 3)))
    (pss_cons (ps_par (i := 2) (j := 3) rfl sc_share.nd rfl rfl (by decide) rfl rfl (pa_cons (pv 3) (pa_cons (pe_op op_sub (pv 2) (pe_op op_mul (pv 6) (pv 3))) pa_nil)) (by rfl))
    (pss_one (ps_par (i := 4) (j := 5) rfl sc_share.nd rfl rfl (by decide) rfl rfl (pa_cons (pv 5) (pa_cons (pe_tup (pa_cons (pe_op op_sub (pe_ix ix_tup (pv 4) pe_int (fun _ _ => rfl)) (pe_op op_mul (pv 6) (pe_ix ix_tup (pv 5) pe_int (fun _ _ => rfl)))) (pa_cons (pe_op op_sub (pe_ix ix_tup (pv 4) pe_int (fun _ _ => rfl)) (pe_op op_mul (pv 6) (pe_ix ix_tup (pv 5) pe_int (fun _ _ => rfl)))) pa_nil))) pa_nil)) (by rfl))))))
    (pss_cons (ps_if (pt_cmpR op_lt (pv 2) pe_int (nomark _)) (pss_one (ps_ret (pe_tup (pa_cons (pe_un un_neg (pv 2)) (pa_cons (pe_un un_neg (pe_ix ix_tup (pv 4) pe_int (fun _ _ => rfl))) (pa_cons (pe_un un_neg (pe_ix ix_tup (pv 4) pe_int (fun _ _ => rfl))) pa_nil)))))) pss_nil)
    (pss_one (ps_ret (pe_tup (pa_cons (pv 2) (pa_cons (pe_ix ix_tup (pv 4) pe_int (fun _ _ => rfl)) (pa_cons (pe_ix ix_tup (pv 4) pe_int (fun _ _ => rfl)) pa_nil)))))))))), fun R G cs post ⟨a, b, e, ⟨ha, hb⟩, hn, q⟩ => ?_⟩
  subst e
  obtain ⟨g, l, r, eM, good⟩ := shGood ha hb hn
  try simp only [cxK, cxK2]
  show SW _ _ _ [some (cI a), some (cI b), Option.none, Option.none, Option.none, Option.none, Option.none]
  refine sw_seq (sw_par ?_)
  repeat walk_at "ev"
  refine sw_asgG [4, 5] ?_
  repeat walk_at "ev"
  refine sw_while (shPv a b (g, l, r)) (fun δ => (iAt δ 3).natAbs) ⟨70, a, b, 1, 0, 0, 1, Option.none, rfl, eM⟩ ?_
  rintro δ1 ⟨n, f, t, l0, l1, r0, r1, m, rfl, hM⟩
  repeat walk_at "ev"
  obtain ⟨n, rfl⟩ : ∃ k, n = k + 1 := by
    cases n with
    | zero =>
      cases hM
    | succ k => exact ⟨k, rfl⟩
  unfold shM at hM
  by_cases ht : t = 0
  · rw [if_pos ht] at hM
    rw [if_neg (by simp [ht])]
    have hM := Option.some.inj hM
    unfold shOut at hM
    refine sw_seq (sw_if ?_)
    repeat walk_at "ev"
    by_cases hf : f < 0
    · rw [if_pos hf] at hM
      simp only [Prod.mk.injEq] at hM
      obtain ⟨rfl, rfl, rfl⟩ := hM
      rw [if_pos (by simp [hf])]
      repeat walk_at "ev"
      exact q _ _ _ good
    · rw [if_neg hf] at hM
      simp only [Prod.mk.injEq] at hM
      obtain ⟨rfl, rfl, rfl⟩ := hM
      rw [if_neg (by simp [hf])]
      repeat walk_at "ev"
      exact q _ _ _ good
  · rw [if_neg ht] at hM
    by_cases hg : t.natAbs ≤ 100 ∧ (f.fdiv t).natAbs ≤ 100
    · rw [if_pos hg] at hM
      rw [if_pos (by simp [ht])]
      have c1 : CDivN f t := ⟨ht, by omega⟩
      have c2 : CMul (f.fdiv t) t := .inr (by omega)
      have c3 : ∀ x, CMul (f.fdiv t) x := fun x => .inl (by omega)
      repeat first | walk_at "ev" | assumption
      refine sw_par ?_
      repeat first | walk_at "ev" | assumption
      refine sw_par ?_
      repeat first | walk_at "ev" | assumption | exact c3 _
      exact ⟨⟨_, _, _, _, _, _, _, _, rfl, hM⟩, fmod_lt f t ht⟩
    · rw [if_neg hg] at hM
      cases hM
end

/-- a row of stretch -/
def rowB : PyData → PyData
  | .tuple [.int x, .int p, .int W] => .bool (decide (p ≠ 0) || (decide (0 ≤ x) && decide (x < W)))
  | _ => .none
def rowN : PyData → Bool
  | .tuple [.int _, .int p, .int _] => decide (p ≠ 0)
  | _ => false
def rowS : PyData → PyData
  | .tuple [.int x, .int p, .int W] => .tuple ([PyData.int (stLo x p W), PyData.int (stHi x p W)])
  | _ => .none
def fst1 : PyData → PyData
  | .tuple (x :: _) => x
  | _ => .none
def snd1 : PyData → PyData
  | .tuple (_ :: x :: _) => x
  | _ => .none
def bx (x p W : Int) : Bool := decide (p ≠ 0) || (decide (0 ≤ x) && decide (x < W))
def lows (x y p q W V : Int) : List Int := (if p ≠ 0 then [stLo x p W] else []) ++ if q ≠ 0 then [stLo y q V] else []
def highs (x y p q W V : Int) : List Int := (if p ≠ 0 then [stHi x p W] else []) ++ if q ≠ 0 then [stHi y q V] else []
theorem lows_ok (x y p q W V : Int) : (((((zip3D [PyData.int x, PyData.int y] [PyData.int p, PyData.int q] [PyData.int W, PyData.int V]).filter rowN).map rowS).filter fun _ => true).map fst1) = pI (lows x y p q W V) := by
  by_cases h1 : p = 0 <;> by_cases h2 : q = 0 <;> simp [zip3D, rowN, rowS, fst1, lows, h1, h2]
theorem highs_ok (x y p q W V : Int) : (((((zip3D [PyData.int x, PyData.int y] [PyData.int p, PyData.int q] [PyData.int W, PyData.int V]).filter rowN).map rowS).filter fun _ => true).map snd1) = pI (highs x y p q W V) := by
  by_cases h1 : p = 0 <;> by_cases h2 : q = 0 <;> simp [zip3D, rowN, rowS, snd1, highs, h1, h2]
theorem lows_ne {x y p q W V : Int} (h : p ≠ 0 ∨ q ≠ 0) : lows x y p q W V ≠ [] := by
  by_cases h1 : p = 0 <;> by_cases h2 : q = 0 <;> simp [lows, h1, h2]
  omega
theorem highs_ne {x y p q W V : Int} (h : p ≠ 0 ∨ q ≠ 0) : highs x y p q W V ≠ [] := by
  by_cases h1 : p = 0 <;> by_cases h2 : q = 0 <;> simp [highs, h1, h2]
  omega
theorem st_iff {x p W t : Int} (h : p ≠ 0) : (stLo x p W ≤ t ∧ t ≤ stHi x p W) ↔ (0 ≤ x + p * t ∧ x + p * t < W) := by
  unfold stLo stHi
  by_cases hp : 0 < p
  · rw [if_pos hp, if_pos hp]
    have a1 : (-t ≤ x / p) ↔ (-t) * p ≤ x := Int.le_ediv_iff_mul_le hp
    have a2 : (t ≤ (W - 1 - x) / p) ↔ t * p ≤ W - 1 - x := Int.le_ediv_iff_mul_le hp
    have e1 : (-t) * p = -(p * t) := by rw [Int.neg_mul, Int.mul_comm]
    have e2 : t * p = p * t := Int.mul_comm _ _
    rw [e1] at a1
    rw [e2] at a2
    constructor
    · rintro ⟨b1, b2⟩
      have := a1.mp (by omega)
      have := a2.mp b2
      omega
    · rintro ⟨b1, b2⟩
      have := a1.mpr (by omega)
      have := a2.mpr (by omega)
      omega
  · rw [if_neg hp, if_neg hp]
    have hn : 0 < -p := by omega
    have a1 : (-t ≤ (W - 1 - x) / -p) ↔ (-t) * -p ≤ W - 1 - x := Int.le_ediv_iff_mul_le hn
    have a2 : (t ≤ x / -p) ↔ t * -p ≤ x := Int.le_ediv_iff_mul_le hn
    have e1 : (-t) * -p = p * t := by rw [Int.neg_mul_neg, Int.mul_comm]
    have e2 : t * -p = -(p * t) := by rw [Int.mul_neg, Int.mul_comm]
    rw [e1] at a1
    rw [e2] at a2
    constructor
    · rintro ⟨b1, b2⟩
      have := a1.mp (by omega)
      have := a2.mp b2
      omega
    · rintro ⟨b1, b2⟩
      have := a1.mpr (by omega)
      have := a2.mpr (by omega)
      omega
theorem bx_zero {x W t : Int} : bx x 0 W = true ↔ (0 ≤ x + 0 * t ∧ x + 0 * t < W) := by
  simp [bx]
theorem str_none {x y p q W V : Int} (h : ¬ (bx x p W && bx y q V) = true) (t : Int) : (1 ≤ t ∧ t ≤ 0) ↔ ((0 ≤ x + p * t ∧ x + p * t < W) ∧ (0 ≤ y + q * t ∧ y + q * t < V)) := by
  constructor
  · rintro ⟨h1, h2⟩
    omega
  · rintro ⟨h1, h2⟩
    exfalso
    apply h
    rw [Bool.and_eq_true]
    constructor
    · by_cases hp : p = 0
      · subst hp
        exact bx_zero.mpr h1
      · simp [bx, hp]
    · by_cases hp : q = 0
      · subst hp
        exact bx_zero.mpr h2
      · simp [bx, hp]
theorem str_law {x y p q W V : Int} (hn : p ≠ 0 ∨ q ≠ 0) (h : (bx x p W && bx y q V) = true) (t : Int) : (lmax (lows x y p q W V) ≤ t ∧ t ≤ lmin (highs x y p q W V)) ↔ ((0 ≤ x + p * t ∧ x + p * t < W) ∧ (0 ≤ y + q * t ∧ y + q * t < V)) := by
  rw [Bool.and_eq_true] at h
  by_cases hp : p = 0
  · subst hp
    have hq : q ≠ 0 := by omega
    rw [← st_iff hq, ← bx_zero (t := t)]
    simp [lows, highs, lmax, lmin, hq, h.1]
  · by_cases hq : q = 0
    · subst hq
      rw [← st_iff hp, ← bx_zero (t := t)]
      simp [lows, highs, lmax, lmin, hp, h.2]
    · rw [← st_iff hp, ← st_iff hq]
      simp [lows, highs, lmax, lmin, hp, hq]
      omega
section
variable {P : Program} {w : World} {K : PySem.W.Frag} {mg : Str → Option Value} {base : Heap} (T : Tp K mg)
theorem ok_steps_in : FnOk P w K mg base CX0 1 T.a_steps_in T.d_steps_in ["item", "step", "size"] (spD K stepsF) := by
  refine fn_ok T.F_steps_in sc_steps_in (fun R cs post ⟨x, p, W, e, _⟩ => by rw [e]; rfl) fun cdv A outer s H E hr => ⟨_, (pss_cons (ps_if (pt_cmpR op_gt (pv 1) pe_int (nomark _)) (pss_one (ps_ret (pe_tup (pa_cons (pe_un un_neg (pe_op op_fdiv (pv 0) (pv 1))) (pa_cons (pe_op op_fdiv (pe_op op_sub (pe_op op_sub (pv 2) pe_int) (pv 0)) (pv 1)) pa_nil))))) pss_nil)
    (pss_one (ps_ret (pe_tup (pa_cons (pe_un un_neg (pe_op op_fdiv (pe_op op_sub (pe_op op_sub (pv 2) pe_int) (pv 0)) (pe_un un_neg (pv 1)))) (pa_cons (pe_op op_fdiv (pv 0) (pe_un un_neg (pv 1))) pa_nil)))))), fun R G cs post ⟨x, p, W, e, hp, ⟨h1, h2⟩, q⟩ => ?_⟩
  subst e
  try simp only [cxK, cxK2]
  show SW _ _ _ [some (cI x), some (cI p), some (cI W)]
  repeat walk_at "ev"
  unfold stLo stHi at q
  by_cases h : 0 < p
  · rw [if_pos (by simp [h])]
    rw [if_pos h, if_pos h] at q
    have c : CDiv x p := ⟨h, by omega⟩
    have c' : CDiv (W - 1 - x) p := ⟨h, by omega⟩
    repeat first | walk_at "ev" | assumption
    try exact q
  · rw [if_neg (by simp [h])]
    rw [if_neg h, if_neg h] at q
    have c : CDiv x (-p) := ⟨by omega, by omega⟩
    have c' : CDiv (W - 1 - x) (-p) := ⟨by omega, by omega⟩
    repeat first | walk_at "ev" | assumption
    try exact q
theorem ok_product_of : FnOk P w K mg base CX0 1 T.a_product_of T.d_product_of ["numbers"] (spD K prodF) := by
  refine fn_ok T.F_product_of sc_product_of (fun R cs post ⟨W, V, e, _⟩ => by rw [e]; rfl) fun cdv A outer s H E hr => ⟨_, (pss_cons (ps_set (i := 1) sc_product_of.nd rfl (Or.inl rfl) pe_int)
    (pss_cons (ps_for PassesOwn.never rfl (pi_tup (pv 0)) (pg_name (i := 2) sc_product_of.nd rfl (Or.inl rfl))
      (pss_one (ps_set (i := 1) sc_product_of.nd rfl (Or.inl rfl) (pe_op op_mul (pv 1) (pv 2)))))
    (pss_one (ps_ret (pv 1))))), fun R G cs post ⟨W, V, e, ⟨⟨h1, h2⟩, h3, h4⟩, q⟩ => ?_⟩
  subst e
  try simp only [cxK, cxK2]
  show SW _ _ _ [some (.dat (.tuple ([PyData.int (W : Int), PyData.int (V : Int)]))), Option.none, Option.none]
  repeat walk_at "ev"
  refine sw_for [2] ?_
  repeat walk_at "ev"
  refine ⟨fun i δ => ∃ m, δ = [some (.dat (.tuple ([PyData.int (W : Int), PyData.int (V : Int)]))), some (cI (([(W : Int), (V : Int)].take i).foldl (· * ·) 1)), m], ⟨_, rfl⟩, ?_, ?_⟩
  · rintro i d δ1 hi ⟨m, rfl⟩
    match i, hi with
    | 0, hi =>
      cases hi
      refine gw_name (by decide) ?_
      have c : CMul (List.foldl (· * ·) 1 (List.take 0 [(W : Int), (V : Int)])) (W : Int) := .inr (by omega)
      repeat first | walk_at "ev" | assumption
      exact ⟨_, rfl⟩
    | 1, hi =>
      cases hi
      refine gw_name (by decide) ?_
      have c : CMul (List.foldl (· * ·) 1 (List.take 1 [(W : Int), (V : Int)])) (V : Int) := .inr (by omega)
      repeat first | walk_at "ev" | assumption
      exact ⟨_, rfl⟩
    | k + 2, hi => cases hi
  · rintro δ1 ⟨m, rfl⟩
    repeat walk_at "ev"
    show post (cI (1 * (W : Int) * (V : Int)))
    rw [Int.one_mul]
    exact q
theorem ok_stretch : FnOk P w K mg base CX0 2 T.a_stretch T.d_stretch ["box", "point", "vector"] (spD K stretchF) := by
  refine fn_ok T.F_stretch sc_stretch (fun R cs post ⟨x, y, p, q, W, V, e, _⟩ => by rw [e]; rfl) fun cdv A outer s H E hr => ⟨_, (pss_cons (ps_set (i := 3) sc_stretch.nd rfl (Or.inl rfl) (pe_listZip3 rfl (by rfl) T.m_list (by rfl) T.m_zip (pa_cons (pv 1) (pa_cons (pv 2) (pa_cons (pv 0) pa_nil)))))
    (pss_cons (ps_if (pt_not (pt_val (pe_callB (cr_all rfl) (by rfl) T.m_all (by decide +kernel) (pa_cons (pe_lc (own := [("item", 5), ("step", 6), ("size", 7)]) (by rfl) sc_stretch.nd (pi_list (pv 3)) (blkOk_by (own := [("item", 5), ("step", 6), ("size", 7)]) (N := ["box", "point", "vector", "rows", "some", "item", "step", "size", "low", "high"]) (sc := defScope s_stretch) (by decide +kernel)) (fun _ _ _ _ _ => (pg_tupK (K := K) (n := 3) rfl rfl (pgs_cons (pg_name (i := 5) sc_stretch.nd rfl (Or.inl rfl)) (pgs_cons (pg_name (i := 6) sc_stretch.nd rfl (Or.inl rfl)) (pgs_cons (pg_name (i := 7) sc_stretch.nd rfl (Or.inl rfl)) pgs_nil))))) (fun _ _ _ _ _ => pts_nil) (fun _ _ _ _ _ => (pe_or (pe_cmpR op_ne (pv 6) pe_int (nomark _)) (pe_one (pe_chain op_le op_lt pe_int (pv 5) (pv 7)))))) pa_nil)))) (pss_one (ps_ret (pe_tup (pa_cons pe_int (pa_cons pe_int pa_nil))))) pss_nil)
    (pss_cons (ps_setLc (i := 4) (own := [("item", 5), ("step", 6), ("size", 7)]) (by rfl) sc_stretch.nd rfl rfl (sw_true rfl rfl rfl (by decide +kernel)) (pi_list (pv 3)) (blkOk_by (own := [("item", 5), ("step", 6), ("size", 7)]) (N := ["box", "point", "vector", "rows", "some", "item", "step", "size", "low", "high"]) (sc := defScope s_stretch) (by decide +kernel)) (fun _ _ _ _ _ => (pg_tupK (K := K) (n := 3) rfl rfl (pgs_cons (pg_name (i := 5) sc_stretch.nd rfl (Or.inl rfl)) (pgs_cons (pg_name (i := 6) sc_stretch.nd rfl (Or.inl rfl)) (pgs_cons (pg_name (i := 7) sc_stretch.nd rfl (Or.inl rfl)) pgs_nil))))) (fun _ _ _ _ _ => (pts_one (pt_cmpR op_ne (pv 6) pe_int (nomark _)))) (fun _ _ _ _ _ => (pe_call (ok_steps_in T) (hr.mono (by decide)) (by rfl) T.g_steps_in T.F_steps_in.kp T.b_steps_in .nil pass0 (pa_cons (pv 5) (pa_cons (pv 6) (pa_cons (pv 7) pa_nil))))))
    (pss_one (ps_ret (pe_tup (pa_cons (pe_callB (c_maxI rfl (hu_of hr)) (by rfl) T.m_max (by decide +kernel) (pa_cons (pe_lc (own := [("low", 8), ("high", 9)]) (by rfl) sc_stretch.nd (pi_list (pv 4)) (blkOk_by (own := [("low", 8), ("high", 9)]) (N := ["box", "point", "vector", "rows", "some", "item", "step", "size", "low", "high"]) (sc := defScope s_stretch) (by decide +kernel)) (fun _ _ _ _ _ => (pg_tupK (K := K) (n := 2) rfl rfl (pgs_cons (pg_name (i := 8) sc_stretch.nd rfl (Or.inl rfl)) (pgs_cons (pg_name (i := 9) sc_stretch.nd rfl (Or.inl rfl)) pgs_nil)))) (fun _ _ _ _ _ => pts_nil) (fun _ _ _ _ _ => (pv 8))) pa_nil)) (pa_cons (pe_callB (c_minI rfl (hu_of hr)) (by rfl) T.m_min (by decide +kernel) (pa_cons (pe_lc (own := [("low", 8), ("high", 9)]) (by rfl) sc_stretch.nd (pi_list (pv 4)) (blkOk_by (own := [("low", 8), ("high", 9)]) (N := ["box", "point", "vector", "rows", "some", "item", "step", "size", "low", "high"]) (sc := defScope s_stretch) (by decide +kernel)) (fun _ _ _ _ _ => (pg_tupK (K := K) (n := 2) rfl rfl (pgs_cons (pg_name (i := 8) sc_stretch.nd rfl (Or.inl rfl)) (pgs_cons (pg_name (i := 9) sc_stretch.nd rfl (Or.inl rfl)) pgs_nil)))) (fun _ _ _ _ _ => pts_nil) (fun _ _ _ _ _ => (pv 9))) pa_nil)) pa_nil)))))))), fun R G cs post ⟨x, y, p, q, W, V, e, hn, ⟨⟨h1, h2⟩, h3, h4⟩, q'⟩ => ?_⟩
  subst e
  try simp only [cxK, cxK2]
  show SW _ _ _ [some (.dat (.tuple ([PyData.int W, PyData.int V]))), some (.dat (.tuple ([PyData.int x, PyData.int y]))), some (.dat (.tuple ([PyData.int p, PyData.int q]))), Option.none, Option.none, Option.none, Option.none, Option.none, Option.none, Option.none]
  repeat walk_at "ev"
  refine ew_frz (ew_listZip3 ?_)
  repeat walk_at "ev"
  refine ⟨true, true, true, _, _, _, [PyData.int x, PyData.int y], [PyData.int p, PyData.int q], [PyData.int W, PyData.int V], rfl, rfl, rfl, rfl, rfl, rfl, ⟨Nat.le_of_ble_eq_true rfl, Nat.le_of_ble_eq_true rfl⟩, ?_⟩
  repeat walk_at "ev"
  have rows : ∀ d, d ∈ zip3D [PyData.int x, PyData.int y] [PyData.int p, PyData.int q] [PyData.int W, PyData.int V] → ∃ x' p' W' : Int, Sm p' ∧ d = .tuple [.int x', .int p', .int W'] := fun d hd => by
    have hd : d ∈ [PyData.tuple [.int x, .int p, .int W], PyData.tuple [.int y, .int q, .int V]] := hd
    rcases List.mem_cons.mp hd with hd | hd
    · exact ⟨x, p, W, ⟨h1, h2⟩, hd⟩
    · exact ⟨y, q, V, ⟨h3, h4⟩, List.mem_singleton.mp hd⟩
  refine ew_lc_map (iw_list (ew_var rfl ⟨_, rfl, fun _ => true, rowB, (by rw [sizeLine_eq]; decide : 2 < sizeLine), ?_, ?_⟩))
  · intro d hd
    obtain ⟨x', p', W', hs, rfl⟩ := rows d hd
    refine gw_tup rfl ?_
    repeat walk_at "ev"
    refine ⟨rfl, fun _ => ?_⟩
    repeat walk_at "ev"
    by_cases hz : p' = 0
    · rw [if_neg (by simp [hz])]
      repeat walk_at "ev"
      by_cases h0 : 0 ≤ x'
      · rw [if_pos (by simp [h0])]
        repeat walk_at "ev"
        simp [rowB, hz, h0]
      · rw [if_neg (by simp [h0])]
        simp [rowB, hz, h0]
    · rw [if_pos (by simp [hz])]
      simp [rowB, hz]
  · repeat walk_at "ev"
    refine cw_all (bs := [bx x p W, bx y q V]) rfl ?_
    repeat walk_at "ev"
    by_cases hall : (bx x p W && bx y q V) = true
    · rw [if_neg (by simp [hall])]
      repeat walk_at "ev"
      refine ew_frz (ew_lc_map (iw_list (ew_var rfl ⟨_, rfl, rowN, rowS, (by rw [sizeLine_eq]; decide : 2 < sizeLine), ?_, ?_⟩)))
      · intro d hd
        obtain ⟨x', p', W', hs, rfl⟩ := rows d hd
        refine gw_tup rfl ?_
        repeat walk_at "ev"
        refine ⟨by simp [rowN], fun hn' => ?_⟩
        have hne : p' ≠ 0 := of_decide_eq_true hn'
        repeat walk_at "ev"
        exact ⟨by simp [ArgOk], x', p', W', rfl, hne, hs, rfl⟩
      · refine ⟨_, rfl, ?_⟩
        repeat walk_at "ev"
        have hL : ∀ d ∈ (zip3D [PyData.int x, PyData.int y] [PyData.int p, PyData.int q] [PyData.int W, PyData.int V] |>.filter rowN).map rowS, ∃ a b : Int, d = .tuple [.int a, .int b] := fun d hd => by
          obtain ⟨e, he, rfl⟩ := List.mem_map.mp hd
          obtain ⟨x', p', W', hs, rfl⟩ := rows e (List.mem_filter.mp he).1
          exact ⟨_, _, rfl⟩
        have hz : ((zip3D [PyData.int x, PyData.int y] [PyData.int p, PyData.int q] [PyData.int W, PyData.int V] |>.filter rowN).map rowS).length < sizeLine := by
          rw [List.length_map, sizeLine_eq]
          exact Nat.lt_of_le_of_lt (List.length_filter_le _ _) (show 2 < 16777216 by decide)
        refine ew_lc_map (iw_list (ew_var rfl ⟨_, rfl, fun _ => true, fst1, hz, ?_, ?_⟩))
        · intro d hd
          obtain ⟨a, b, rfl⟩ := hL d hd
          refine gw_tup rfl ?_
          repeat walk_at "ev"
          refine ⟨rfl, fun _ => ?_⟩
          repeat walk_at "ev"
          rfl
        · repeat walk_at "ev"
          refine cw_maxI (ns := lows x y p q W V) (.inl (lows_ok x y p q W V)) (lows_ne hn) ?_
          refine aw_cons (ew_cb (aw_cons ?_))
          refine ew_lc_map (iw_list (ew_var rfl ⟨_, rfl, fun _ => true, snd1, hz, ?_, ?_⟩))
          · intro d hd
            obtain ⟨a, b, rfl⟩ := hL d hd
            refine gw_tup rfl ?_
            repeat walk_at "ev"
            refine ⟨rfl, fun _ => ?_⟩
            repeat walk_at "ev"
            rfl
          · repeat walk_at "ev"
            refine cw_minI (ns := highs x y p q W V) (.inl (highs_ok x y p q W V)) (highs_ne hn) ?_
            repeat walk_at "ev"
            exact q' _ _ (str_law hn hall)
    · rw [if_pos (by simp [hall])]
      repeat walk_at "ev"
      exact q' 1 0 (str_none hall)
end

theorem sm_div {g q : Int} (g0 : 0 < g) (h : Sm q) : Sm (q / g) := by
  obtain ⟨h1, h2⟩ := h
  refine ⟨(Int.le_ediv_iff_mul_le g0).mpr (by omega), ?_⟩
  have := (Int.ediv_lt_iff_lt_mul g0 (a := q) (b := 61)).mpr (by omega)
  omega
theorem sm_neg {q : Int} (h : Sm q) : Sm (-q) := by
  obtain ⟨h1, h2⟩ := h
  exact ⟨by omega, by omega⟩
theorem div_nz {p q g l r : Int} (ok : ShOk p q g l r) (hn : p ≠ 0 ∨ q ≠ 0) : q / g ≠ 0 ∨ -(p / g) ≠ 0 := by
  obtain ⟨_, a1, a2, _⟩ := ok
  have e1 := Int.emod_add_mul_ediv p g
  have e2 := Int.emod_add_mul_ediv q g
  by_cases h : q / g = 0
  · by_cases h' : p / g = 0
    · rw [h] at e2
      rw [h'] at e1
      simp at e1 e2
      omega
    · exact .inr (by omega)
  · exact .inl h
section
variable {P : Program} {w : World} {K : PySem.W.Frag} {mg : Str → Option Value} {base : Heap} (T : Tp K mg)
theorem ok_count_on_plane : FnOk P w K mg base CX0 3 T.a_count_on_plane T.d_count_on_plane ["box", "weights", "beat"] (spD K planeF) := by
  refine fn_ok T.F_count_on_plane sc_count_on_plane (fun R cs post ⟨W, V, p, q, b, e, _⟩ => by rw [e]; rfl) fun cdv A outer s H E hr => ⟨_, (pss_cons (ps_asg (pv 1) (pg_tup (by rfl) (pgs_cons (pg_name (i := 3) sc_count_on_plane.nd rfl (Or.inl rfl)) (pgs_cons (pg_name (i := 4) sc_count_on_plane.nd rfl (Or.inl rfl)) pgs_nil))))
    (pss_cons (ps_if (PW.pt (pw_and (pt_cmpR op_eq (pv 3) pe_int (nomark _)) (pw_and1 (pt_cmpR op_eq (pv 4) pe_int (nomark _))))) (pss_one (ps_ret (pe_ifExp (pt_cmpR op_eq (pv 2) pe_int (nomark _)) (pe_call (ok_product_of T) (hr.mono (by decide)) (by rfl) T.g_product_of T.F_product_of.kp T.b_product_of .nil pass0 (pa_cons (pv 0) pa_nil)) pe_int))) pss_nil)
    (pss_cons (ps_asg (pe_call (ok_share T) (hr.mono (by decide)) (by rfl) T.g_share T.F_share.kp T.b_share .nil pass0 (pa_cons (pv 3) (pa_cons (pv 4) pa_nil))) (pg_tup (by rfl) (pgs_cons (pg_name (i := 5) sc_count_on_plane.nd rfl (Or.inl rfl)) (pgs_cons (pg_name (i := 6) sc_count_on_plane.nd rfl (Or.inl rfl)) (pgs_cons (pg_name (i := 7) sc_count_on_plane.nd rfl (Or.inl rfl)) pgs_nil)))))
    (pss_cons (ps_if (pt_cmpR op_ne (pe_op op_mod (pv 2) (pv 5)) pe_int (nomark _)) (pss_one (ps_ret pe_int)) pss_nil)
    (pss_cons (ps_set (i := 8) sc_count_on_plane.nd rfl (Or.inl rfl) (pe_tup (pa_cons (pe_op op_mul (pv 6) (pe_op op_fdiv (pv 2) (pv 5))) (pa_cons (pe_op op_mul (pv 7) (pe_op op_fdiv (pv 2) (pv 5))) pa_nil))))
    (pss_cons (ps_asg (pe_call (ok_stretch T) (hr.mono (by decide)) (by rfl) T.g_stretch T.F_stretch.kp T.b_stretch .nil pass0 (pa_cons (pv 0) (pa_cons (pv 8) (pa_cons (pe_tup (pa_cons (pe_op op_fdiv (pv 4) (pv 5)) (pa_cons (pe_un un_neg (pe_op op_fdiv (pv 3) (pv 5))) pa_nil))) pa_nil)))) (pg_tup (by rfl) (pgs_cons (pg_name (i := 9) sc_count_on_plane.nd rfl (Or.inl rfl)) (pgs_cons (pg_name (i := 10) sc_count_on_plane.nd rfl (Or.inl rfl)) pgs_nil))))
    (pss_one (ps_ret (pe_callB (c_max2 rfl) (by rfl) T.m_max (by decide +kernel) (pa_cons pe_int (pa_cons (pe_op op_add (pe_op op_sub (pv 10) (pv 9)) pe_int) pa_nil))))))))))), fun R G cs post ⟨W, V, p, q, b, e, ⟨hW, hV⟩, ⟨hp, hq⟩, fin⟩ => ?_⟩
  subst e
  try simp only [cxK, cxK2]
  refine sw_seq (sw_asgG [3, 4] ?_)
  show EW _ _ [some (.dat (.tuple [.int (W : Int), .int (V : Int)])), some (.dat (.tuple [.int p, .int q])), some (cI b), Option.none, Option.none, Option.none, Option.none, Option.none, Option.none, Option.none, Option.none] _
  repeat walk_at "ev"
  by_cases hz : p = 0 ∧ q = 0
  · obtain ⟨h0, h1⟩ := hz
    rw [if_pos (by simp [h0])]
    repeat walk_at "ev"
    rw [if_pos (by simp [h1])]
    repeat walk_at "ev"
    subst h0 h1
    rw [N2_flat] at fin
    by_cases hb : b = 0
    · rw [if_pos (by simp [hb])]
      rw [if_pos hb] at fin
      repeat walk_at "ev"
      exact ⟨by simp [ArgOk], W, V, rfl, ⟨hW, hV⟩, nsD fin⟩
    · rw [if_neg (by simp [hb])]
      rw [if_neg hb] at fin
      repeat walk_at "ev"
      exact fin
  have hn : p ≠ 0 ∨ q ≠ 0 := by omega
  by_cases h0 : p = 0
  case' pos =>
    rw [if_pos (by simp [h0])]
    repeat walk_at "ev"
    rw [if_neg (by simp; omega)]
  case' neg =>
    rw [if_neg (by simp [h0])]
    rw [if_neg (by simp)]
  all_goals (
    repeat walk_at "ev"
    refine sw_asgG [5, 6, 7] ?_
    repeat walk_at "ev"
    refine ⟨by simp [ArgOk], p, q, rfl, ⟨hp, hq⟩, hn, fun g l r ok => ?_⟩
    have g0 : 0 < g := ok.1.1
    have g1 : g ≤ 60 := ok.1.2
    have c1 : ∀ x, CDiv x g := fun x => ⟨g0, by omega⟩
    have hl := ok.2.2.2.2.1
    have hr' := ok.2.2.2.2.2
    have c2 : ∀ x, CMul l x := fun x => .inl (by omega)
    have c3 : ∀ x, CMul r x := fun x => .inl (by omega)
    repeat first | walk_at "ev" | exact g0
    by_cases hb : b % g = 0
    · rw [if_neg (by simp [hb])]
      repeat first | walk_at "ev" | exact c1 _ | exact c2 _ | exact c3 _
      refine sw_asgG [9, 10] ?_
      repeat first | walk_at "ev" | exact c1 _
      refine ⟨by simp [ArgOk], l * (b / g), r * (b / g), q / g, -(p / g), W, V, rfl, ?_, ⟨?_, ?_⟩, fun lo hi hh => ?_⟩
      · exact div_nz ok hn
      · exact sm_div g0 hq
      · exact sm_neg (sm_div g0 hp)
      · repeat walk_at "ev"
        rw [N2_plane ok hn hb hh] at fin
        exact fin
    · rw [if_pos (by simp [hb])]
      repeat walk_at "ev"
      rw [N2_off ok hb] at fin
      exact fin)
end

theorem sum_range (f : Nat → Int) : ∀ n : Nat, ((List.range n).map f).sum = sumN n f
  | 0 => rfl
  | n + 1 => by
    rw [List.range_succ, List.map_append, List.sum_append_int, sum_range f n]
    show sumN n f + (f n + 0) = sumN n f + f n
    omega
theorem N3_0 (W V U : Nat) (p q r b : Int) : N3 W V U p q r b = sumN W fun i => N2 V U q r (b - p * (i : Int)) := by
  unfold N3 N2
  refine sum_congr fun i _ => sum_congr fun j _ => sum_congr fun k _ => ?_
  rw [br_brc, br_brc]
  exact brc_congr (by omega)
theorem N3_1 (W V U : Nat) (p q r b : Int) : N3 W V U p q r b = sumN V fun j => N2 W U p r (b - q * (j : Int)) := by
  unfold N3 N2
  rw [sum_comm]
  refine sum_congr fun j _ => sum_congr fun i _ => sum_congr fun k _ => ?_
  rw [br_brc, br_brc]
  exact brc_congr (by omega)
theorem N3_2 (W V U : Nat) (p q r b : Int) : N3 W V U p q r b = sumN U fun k => N2 W V p q (b - r * (k : Int)) := by
  unfold N3 N2
  rw [sum_congr (g := fun i => sumN U fun k => sumN V fun j => br (p * (i : Int) + q * (j : Int) + r * (k : Int) = b)) fun i _ => sum_comm _ _ _, sum_comm]
  refine sum_congr fun k _ => sum_congr fun i _ => sum_congr fun j _ => ?_
  rw [br_brc, br_brc]
  exact brc_congr (by omega)
/-- the place of the least -/
theorem least3 (W V U : Nat) (h : W ≤ 1000 ∨ V ≤ 1000 ∨ U ≤ 1000) : (idxOf (lmin [(W : Int), V, U]) [(W : Int), V, U] = some 0 ∧ W ≤ 1000) ∨ (idxOf (lmin [(W : Int), V, U]) [(W : Int), V, U] = some 1 ∧ V ≤ 1000) ∨ (idxOf (lmin [(W : Int), V, U]) [(W : Int), V, U] = some 2 ∧ U ≤ 1000) := by
  have e : lmin [(W : Int), V, U] = min (min (W : Int) V) U := rfl
  rw [e]
  by_cases h1 : W ≤ V ∧ W ≤ U
  · refine .inl ⟨?_, by omega⟩
    unfold idxOf
    rw [if_pos (by omega)]
  · by_cases h2 : V ≤ U
    · refine .inr (.inl ⟨?_, by omega⟩)
      unfold idxOf
      rw [if_neg (by omega)]
      unfold idxOf
      rw [if_pos (by omega)]
      rfl
    · refine .inr (.inr ⟨?_, by omega⟩)
      unfold idxOf
      rw [if_neg (by omega)]
      unfold idxOf
      rw [if_neg (by omega)]
      unfold idxOf
      rw [if_pos (by omega)]
      rfl
def notAt (a : Int) : PyData → Bool
  | .tuple (.int i :: _) => !decide (i = a)
  | _ => false
def mapI (f : Int → Int) : PyData → PyData
  | .int i => .int (f i)
  | _ => .none
theorem rng_map (f : Int → Int) (n : Nat) : (((rngD 0 n).filter fun _ => true).map (mapI f)) = pI ((List.range n).map fun (i : Nat) => f (i : Int)) := by
  rw [List.filter_eq_self.mpr fun _ _ => rfl]
  unfold rngD pI
  rw [List.map_map, List.map_map]
  refine List.map_congr_left fun i _ => ?_
  show PyData.int (f (0 + (i : Int))) = .int (f i)
  rw [Int.zero_add]
theorem rng_mem {n : Nat} {d : PyData} (h : d ∈ rngD 0 n) : ∃ i : Nat, i < n ∧ d = .int (i : Int) := by
  unfold rngD at h
  obtain ⟨i, hi, rfl⟩ := List.mem_map.mp h
  exact ⟨i, List.mem_range.mp hi, by rw [Int.zero_add]⟩
section
variable {P : Program} {w : World} {K : PySem.W.Frag} {mg : Str → Option Value} {base : Heap} (T : Tp K mg)
theorem ok_count_at : FnOk P w K mg base CX0 4 T.a_count_at T.d_count_at ["box", "weights", "beat"] (spD K countF) := by
  refine fn_ok T.F_count_at sc_count_at (fun R cs post h => by rcases h with ⟨W, V, p, q, b, e, _⟩ | ⟨W, V, U, p, q, r, b, e, _⟩ <;> (rw [e]; rfl)) fun cdv A outer s H E hr => ⟨_, (pss_cons (ps_if (pt_cmpR op_eq (pe_callB c_len (by rfl) T.m_len (by decide +kernel) (pa_cons (pv 0) pa_nil)) pe_int (nomark _)) (pss_one (ps_ret (pe_call (ok_count_on_plane T) (hr.mono (by decide)) (by rfl) T.g_count_on_plane T.F_count_on_plane.kp T.b_count_on_plane .nil pass0 (pa_cons (pv 0) (pa_cons (pv 1) (pa_cons (pv 2) pa_nil)))))) pss_nil)
    (pss_cons (ps_set (i := 3) sc_count_at.nd rfl (Or.inr rfl) (pe_tindex (pv 0) (pa_cons (pe_callB (c_minI rfl (hu_of hr)) (by rfl) T.m_min (by decide +kernel) (pa_cons (pv 0) pa_nil)) pa_nil)))
    (pss_cons (ps_set (i := 4) sc_count_at.nd rfl (Or.inr rfl) (pe_callTy c_tup (by rfl) T.m_tuple (by decide +kernel) (pa_cons (pe_lc (own := [("at", 6), ("size", 7)]) (by rfl) sc_count_at.nd (pi_en (by rfl) T.m_enumerate (pa_cons (pv 0) pa_nil)) (blkOk_by (own := [("at", 6), ("size", 7)]) (N := ["box", "weights", "beat", "axis", "rest", "others", "at", "size", "weight", "item"]) (sc := defScope s_count_at) (by decide +kernel)) (fun _ _ _ _ _ => (pg_tupK (K := K) (n := 2) rfl rfl (pgs_cons (pg_name (i := 6) sc_count_at.nd rfl (Or.inl rfl)) (pgs_cons (pg_name (i := 7) sc_count_at.nd rfl (Or.inl rfl)) pgs_nil)))) (fun _ _ _ _ _ => (pts_one (pt_cmpR op_ne (pv 6) (pv 3) (nomark _)))) (fun _ _ _ _ _ => (pv 7))) pa_nil)))
    (pss_cons (ps_set (i := 5) sc_count_at.nd rfl (Or.inr rfl) (pe_callTy c_tup (by rfl) T.m_tuple (by decide +kernel) (pa_cons (pe_lc (own := [("at", 6), ("weight", 8)]) (by rfl) sc_count_at.nd (pi_en (by rfl) T.m_enumerate (pa_cons (pv 1) pa_nil)) (blkOk_by (own := [("at", 6), ("weight", 8)]) (N := ["box", "weights", "beat", "axis", "rest", "others", "at", "size", "weight", "item"]) (sc := defScope s_count_at) (by decide +kernel)) (fun _ _ _ _ _ => (pg_tupK (K := K) (n := 2) rfl rfl (pgs_cons (pg_name (i := 6) sc_count_at.nd rfl (Or.inl rfl)) (pgs_cons (pg_name (i := 8) sc_count_at.nd rfl (Or.inl rfl)) pgs_nil)))) (fun _ _ _ _ _ => (pts_one (pt_cmpR op_ne (pv 6) (pv 3) (nomark _)))) (fun _ _ _ _ _ => (pv 8))) pa_nil)))
    (pss_one (ps_ret (pe_callB (cr_sum rfl) (by rfl) T.m_sum (by decide +kernel) (pa_cons (pe_lc (own := [("item", 9)]) (by rfl) sc_count_at.nd (pi_range1 (by rfl) T.m_range (pa_cons (pe_ix ix_tup (pv 0) (pv 3) (fun _ _ => rfl)) pa_nil)) (blkOk_by (own := [("item", 9)]) (N := ["box", "weights", "beat", "axis", "rest", "others", "at", "size", "weight", "item"]) (sc := defScope s_count_at) (by decide +kernel)) (fun _ _ _ _ _ => (pg_name (i := 9) sc_count_at.nd rfl (Or.inl rfl))) (fun _ _ _ _ _ => pts_nil) (fun _ _ _ _ _ => (pe_call (ok_count_on_plane T) (hr.mono (by decide)) (by rfl) T.g_count_on_plane T.F_count_on_plane.kp T.b_count_on_plane .nil pass0 (pa_cons (pv 4) (pa_cons (pv 5) (pa_cons (pe_op op_sub (pv 2) (pe_op op_mul (pe_ix (ixK_tup (K := K) rfl) (pv 1) (pv 3) (fun _ _ => rfl)) (pv 9))) pa_nil)))))) pa_nil)))))))), fun R G cs post h => ?_⟩
  try simp only [cxK, cxK2]
  rcases h with ⟨W, V, p, q, b, e, ⟨hW, hV⟩, ⟨hp, hq⟩, fin⟩ | ⟨W, V, U, p, q, r, b, e, ⟨hW, hV, hU⟩, ⟨hp, hq, hr'⟩, hs, fin⟩
  · subst e
    refine sw_seq ?_
    show SW _ _ _ [some (.pt [.int (W : Int), .int (V : Int)]), some (.dat (.tuple [.int p, .int q])), some (cI b), Option.none, Option.none, Option.none, Option.none, Option.none, Option.none, Option.none]
    repeat walk_at "ev"
    refine cw_len (.inr rfl) ?_
    repeat walk_at "ev"
    rw [if_pos (by rfl)]
    repeat walk_at "ev"
    exact ⟨by simp [ArgOk], W, V, p, q, b, rfl, ⟨hW, hV⟩, ⟨hp, hq⟩, nsD fin⟩
  · subst e
    refine sw_seq ?_
    show SW _ _ _ [some (.pt [.int (W : Int), .int (V : Int), .int (U : Int)]), some (.dat (.tuple [.int p, .int q, .int r])), some (cI b), Option.none, Option.none, Option.none, Option.none, Option.none, Option.none, Option.none]
    repeat walk_at "ev"
    refine cw_len (.inr rfl) ?_
    repeat walk_at "ev"
    rw [if_neg (by simp)]
    repeat walk_at "ev"
    refine ew_idx (ew_pt rfl ⟨[(W : Int), V, U], rfl, ?_⟩)
    repeat walk_at "ev"
    refine cw_minI (ns := [(W : Int), V, U]) (.inr rfl) (by simp) ?_
    rcases least3 W V U hs with ⟨hi, hz⟩ | ⟨hi, hz⟩ | ⟨hi, hz⟩
    · rw [N3_0] at fin
      refine ⟨_, 0, rfl, hi, ?_⟩
      repeat walk_at "ev"
      refine ew_lc_map ?_
      repeat walk_at "ev"
      refine ⟨true, _, [.int (W : Int), .int (V : Int), .int (U : Int)], rfl, rfl, notAt 0, snd1, (by rw [sizeLine_eq]; decide : 3 < sizeLine), ?_, ?_⟩
      · intro d hd
        have hd : d ∈ [PyData.tuple [.int 0, .int (W : Int)], .tuple [.int 1, .int (V : Int)], .tuple [.int 2, .int (U : Int)]] := hd
        obtain ⟨i, x, rfl⟩ : ∃ i x : Int, d = .tuple [.int i, .int x] := by
          simp only [List.mem_cons, List.not_mem_nil, or_false] at hd
          rcases hd with h | h | h <;> exact ⟨_, _, h⟩
        refine gw_tup rfl ?_
        repeat walk_at "ev"
        refine ⟨rfl, fun _ => ?_⟩
        repeat walk_at "ev"
        rfl
      repeat walk_at "ev"
      refine cw_tup (xs := [.int (V : Int), .int (U : Int)]) rfl ?_
      repeat walk_at "ev"
      refine ew_lc_map ?_
      repeat walk_at "ev"
      refine ⟨true, _, [.int p, .int q, .int r], rfl, rfl, notAt 0, snd1, (by rw [sizeLine_eq]; decide : 3 < sizeLine), ?_, ?_⟩
      · intro d hd
        have hd : d ∈ [PyData.tuple [.int 0, .int p], .tuple [.int 1, .int q], .tuple [.int 2, .int r]] := hd
        obtain ⟨i, x, rfl⟩ : ∃ i x : Int, d = .tuple [.int i, .int x] := by
          simp only [List.mem_cons, List.not_mem_nil, or_false] at hd
          rcases hd with h | h | h <;> exact ⟨_, _, h⟩
        refine gw_tup rfl ?_
        repeat walk_at "ev"
        refine ⟨rfl, fun _ => ?_⟩
        repeat walk_at "ev"
        rfl
      repeat walk_at "ev"
      refine cw_tup (xs := [.int q, .int r]) rfl ?_
      repeat walk_at "ev"
      refine ew_lc_map ?_
      repeat walk_at "ev"
      refine ⟨(W : Int), rfl, by omega, by omega, fun _ => true, mapI fun i => N2 V U q r (b - p * i), by rw [rngD_len, sizeLine_eq]; omega, ?_, ?_⟩
      · intro d hd
        obtain ⟨i, hi', rfl⟩ := rng_mem hd
        refine gw_name (by decide) ?_
        repeat walk_at "ev"
        refine ⟨rfl, fun _ => ?_⟩
        have c1 : ∀ x, CMul p x := fun x => .inl (by obtain ⟨z1, z2⟩ := hp; omega)
        repeat first | walk_at "ev" | exact c1 _
        exact ⟨by simp [ArgOk], V, U, q, r, _, rfl, ⟨hV, hU⟩, ⟨hq, hr'⟩, rfl⟩
      repeat walk_at "ev"
      refine cw_sum (rng_map _ _) ?_
      repeat walk_at "ev"
      rw [sum_range]
      exact fin
    · rw [N3_1] at fin
      refine ⟨_, 1, rfl, hi, ?_⟩
      repeat walk_at "ev"
      refine ew_lc_map ?_
      repeat walk_at "ev"
      refine ⟨true, _, [.int (W : Int), .int (V : Int), .int (U : Int)], rfl, rfl, notAt 1, snd1, (by rw [sizeLine_eq]; decide : 3 < sizeLine), ?_, ?_⟩
      · intro d hd
        have hd : d ∈ [PyData.tuple [.int 0, .int (W : Int)], .tuple [.int 1, .int (V : Int)], .tuple [.int 2, .int (U : Int)]] := hd
        obtain ⟨i, x, rfl⟩ : ∃ i x : Int, d = .tuple [.int i, .int x] := by
          simp only [List.mem_cons, List.not_mem_nil, or_false] at hd
          rcases hd with h | h | h <;> exact ⟨_, _, h⟩
        refine gw_tup rfl ?_
        repeat walk_at "ev"
        refine ⟨rfl, fun _ => ?_⟩
        repeat walk_at "ev"
        rfl
      repeat walk_at "ev"
      refine cw_tup (xs := [.int (W : Int), .int (U : Int)]) rfl ?_
      repeat walk_at "ev"
      refine ew_lc_map ?_
      repeat walk_at "ev"
      refine ⟨true, _, [.int p, .int q, .int r], rfl, rfl, notAt 1, snd1, (by rw [sizeLine_eq]; decide : 3 < sizeLine), ?_, ?_⟩
      · intro d hd
        have hd : d ∈ [PyData.tuple [.int 0, .int p], .tuple [.int 1, .int q], .tuple [.int 2, .int r]] := hd
        obtain ⟨i, x, rfl⟩ : ∃ i x : Int, d = .tuple [.int i, .int x] := by
          simp only [List.mem_cons, List.not_mem_nil, or_false] at hd
          rcases hd with h | h | h <;> exact ⟨_, _, h⟩
        refine gw_tup rfl ?_
        repeat walk_at "ev"
        refine ⟨rfl, fun _ => ?_⟩
        repeat walk_at "ev"
        rfl
      repeat walk_at "ev"
      refine cw_tup (xs := [.int p, .int r]) rfl ?_
      repeat walk_at "ev"
      refine ew_lc_map ?_
      repeat walk_at "ev"
      refine ⟨(V : Int), rfl, by omega, by omega, fun _ => true, mapI fun i => N2 W U p r (b - q * i), by rw [rngD_len, sizeLine_eq]; omega, ?_, ?_⟩
      · intro d hd
        obtain ⟨i, hi', rfl⟩ := rng_mem hd
        refine gw_name (by decide) ?_
        repeat walk_at "ev"
        refine ⟨rfl, fun _ => ?_⟩
        have c1 : ∀ x, CMul q x := fun x => .inl (by obtain ⟨z1, z2⟩ := hq; omega)
        repeat first | walk_at "ev" | exact c1 _
        exact ⟨by simp [ArgOk], W, U, p, r, _, rfl, ⟨hW, hU⟩, ⟨hp, hr'⟩, rfl⟩
      repeat walk_at "ev"
      refine cw_sum (rng_map _ _) ?_
      repeat walk_at "ev"
      rw [sum_range]
      exact fin
    · rw [N3_2] at fin
      refine ⟨_, 2, rfl, hi, ?_⟩
      repeat walk_at "ev"
      refine ew_lc_map ?_
      repeat walk_at "ev"
      refine ⟨true, _, [.int (W : Int), .int (V : Int), .int (U : Int)], rfl, rfl, notAt 2, snd1, (by rw [sizeLine_eq]; decide : 3 < sizeLine), ?_, ?_⟩
      · intro d hd
        have hd : d ∈ [PyData.tuple [.int 0, .int (W : Int)], .tuple [.int 1, .int (V : Int)], .tuple [.int 2, .int (U : Int)]] := hd
        obtain ⟨i, x, rfl⟩ : ∃ i x : Int, d = .tuple [.int i, .int x] := by
          simp only [List.mem_cons, List.not_mem_nil, or_false] at hd
          rcases hd with h | h | h <;> exact ⟨_, _, h⟩
        refine gw_tup rfl ?_
        repeat walk_at "ev"
        refine ⟨rfl, fun _ => ?_⟩
        repeat walk_at "ev"
        rfl
      repeat walk_at "ev"
      refine cw_tup (xs := [.int (W : Int), .int (V : Int)]) rfl ?_
      repeat walk_at "ev"
      refine ew_lc_map ?_
      repeat walk_at "ev"
      refine ⟨true, _, [.int p, .int q, .int r], rfl, rfl, notAt 2, snd1, (by rw [sizeLine_eq]; decide : 3 < sizeLine), ?_, ?_⟩
      · intro d hd
        have hd : d ∈ [PyData.tuple [.int 0, .int p], .tuple [.int 1, .int q], .tuple [.int 2, .int r]] := hd
        obtain ⟨i, x, rfl⟩ : ∃ i x : Int, d = .tuple [.int i, .int x] := by
          simp only [List.mem_cons, List.not_mem_nil, or_false] at hd
          rcases hd with h | h | h <;> exact ⟨_, _, h⟩
        refine gw_tup rfl ?_
        repeat walk_at "ev"
        refine ⟨rfl, fun _ => ?_⟩
        repeat walk_at "ev"
        rfl
      repeat walk_at "ev"
      refine cw_tup (xs := [.int p, .int q]) rfl ?_
      repeat walk_at "ev"
      refine ew_lc_map ?_
      repeat walk_at "ev"
      refine ⟨(U : Int), rfl, by omega, by omega, fun _ => true, mapI fun i => N2 W V p q (b - r * i), by rw [rngD_len, sizeLine_eq]; omega, ?_, ?_⟩
      · intro d hd
        obtain ⟨i, hi', rfl⟩ := rng_mem hd
        refine gw_name (by decide) ?_
        repeat walk_at "ev"
        refine ⟨rfl, fun _ => ?_⟩
        have c1 : ∀ x, CMul r x := fun x => .inl (by obtain ⟨z1, z2⟩ := hr'; omega)
        repeat first | walk_at "ev" | exact c1 _
        exact ⟨by simp [ArgOk], W, V, p, q, _, rfl, ⟨hW, hV⟩, ⟨hp, hq⟩, rfl⟩
      repeat walk_at "ev"
      refine cw_sum (rng_map _ _) ?_
      repeat walk_at "ev"
      rw [sum_range]
      exact fin
end

def iAt2 (δ : DSl) (i : Nat) : Int := match δ[i]? with
  | some (some (.dat (.int s))) => s
  | _ => 0
theorem atI_some {ds : List PyData} {k : Int} (h : 0 ≤ k ∧ k < ds.length) : ∃ d, d ∈ ds ∧ atI ds k = some d := by
  refine ⟨ds[k.toNat]'(by omega), List.getElem_mem _, ?_⟩
  unfold atI ixN
  rw [if_pos h.1, if_pos h.2]
  exact List.getElem?_eq_getElem _
theorem pow6 : (10 : Int) ^ (6 : Int).toNat = 1000000 := by decide
theorem cpow6 : CPow 10 6 := ⟨by decide, by decide, by decide⟩
theorem cpow (i : Int) (hi : i.natAbs ≤ 1000) (j : Int) (h : 0 ≤ j ∧ j ≤ 1000) : CPow i j := ⟨h.1, by omega, by omega⟩
theorem cut_ints (ns : List Int) (lo hi : Option Int) {d : PyData} (h : d ∈ L3.cutD (pI ns) lo hi) : ∃ n, d = .int n := by
  unfold L3.cutD at h
  have := List.mem_of_mem_drop (List.mem_of_mem_take h)
  obtain ⟨n, _, rfl⟩ := List.mem_map.mp this
  exact ⟨n, rfl⟩
section
variable {P : Program} {w : World} {K : PySem.W.Frag} {mg : Str → Option Value} {base : Heap} (T : Tp K mg)
theorem ok__law_gcd : FnOk P w K mg base CX0 1 T.a__law_gcd T.d__law_gcd ["_law_one", "_law_other"] (spD K gcdF) := by
  refine fn_ok T.F__law_gcd sc__law_gcd (fun R cs post ⟨a, b, e, _⟩ => by rw [e]; rfl) fun cdv A outer s H E hr => ⟨_, (pss_cons (ps_par (i := 0) (j := 1) rfl sc__law_gcd.nd rfl rfl (by decide) rfl rfl (pa_cons (pe_callB c_abs (by rfl) T.m_abs (by decide +kernel) (pa_cons (pv 0) pa_nil)) (pa_cons (pe_callB c_abs (by rfl) T.m_abs (by decide +kernel) (pa_cons (pv 1) pa_nil)) pa_nil)) (by rfl))
    (pss_cons (ps_while PassesOwn.never (pt_cmpR op_gt (pv 1) pe_int (nomark _))
      (pss_one (ps_par (i := 0) (j := 1) rfl sc__law_gcd.nd rfl rfl (by decide) rfl rfl (pa_cons (pv 1) (pa_cons (pe_op op_mod (pe_callTy c_int (by rfl) T.m_int (by decide +kernel) (pa_cons (pv 0) pa_nil)) (pv 1)) pa_nil)) (by rfl))))
    (pss_one (ps_ret (pv 0))))), fun R G cs post ⟨a, b, e, q⟩ => ?_⟩
  subst e
  try simp only [cxK, cxK2]
  refine sw_seq (sw_par ?_)
  show AW _ _ [some (cI a), some (cI b)] _
  repeat walk_at "ev"
  refine sw_while (fun δ => ∃ x y : Nat, δ = [some (cI x), some (cI y)] ∧ Nat.gcd x y = Int.gcd a b) (fun δ => (iAt2 δ 1).natAbs) ⟨a.natAbs, b.natAbs, rfl, rfl⟩ ?_
  rintro δ1 ⟨x, y, rfl, hg⟩
  repeat walk_at "ev"
  by_cases hy : 0 < y
  · rw [if_pos (by simp [hy])]
    refine sw_par ?_
    repeat first | walk_at "ev" | exact (show (0 : Int) < (y : Int) by omega)
    refine ⟨⟨y, x % y, by rw [Int.natCast_emod]; rfl, ?_⟩, ?_⟩
    · rw [← hg, Nat.gcd_comm x y, Nat.gcd_rec y x, Nat.gcd_comm]
    · show ((x : Int) % (y : Int)).natAbs < ((y : Int)).natAbs
      have h1 := Int.emod_nonneg (x : Int) (b := (y : Int)) (by omega)
      have h2 := Int.emod_lt_of_pos (x : Int) (b := (y : Int)) (by omega)
      omega
  · rw [if_neg (by simp; omega)]
    repeat walk_at "ev"
    have : y = 0 := by omega
    subst this
    rw [← hg, Nat.gcd_zero_right] at q
    exact q
theorem ok__law_spring : FnOk P w K mg base CX0 1 T.a__law_spring T.d__law_spring ["_law_script"] (spD K springF) := by
  refine fn_ok T.F__law_spring sc__law_spring (fun R cs post ⟨ns, e, _⟩ => by rw [e]; rfl) fun cdv A outer s H E hr => ⟨_, (pss_cons (ps_asg (pe_tup (pa_cons pe_int (pa_cons pe_int pa_nil))) (pg_tup (by rfl) (pgs_cons (pg_name (i := 1) sc__law_spring.nd rfl (Or.inl rfl)) (pgs_cons (pg_name (i := 2) sc__law_spring.nd rfl (Or.inl rfl)) pgs_nil))))
    (pss_cons (ps_for PassesOwn.never rfl (pi_list (pe_slice sl_list (pv 0) po_none (po_some pe_int))) (pg_name (i := 3) sc__law_spring.nd rfl (Or.inl rfl))
      (pss_cons (ps_set (i := 2) sc__law_spring.nd rfl (Or.inl rfl) (pe_op op_add (pe_op op_add (pe_op op_add (pe_op op_mul (pv 2) pe_int) (pe_op op_mul pe_int (pe_callB c_abs (by rfl) T.m_abs (by decide +kernel) (pa_cons (pv 3) pa_nil)))) (pe_callTy c_int (by rfl) T.m_int (by decide +kernel) (pa_cons (pe_cmpR op_lt (pv 3) pe_int (nomark _)) pa_nil))) pe_int))
    (pss_cons (ps_set (i := 2) sc__law_spring.nd rfl (Or.inl rfl) (pe_op op_mod (pe_callTy c_int (by rfl) T.m_int (by decide +kernel) (pa_cons (pv 2) pa_nil)) pe_int))
    (pss_one (ps_if (pt_cmpR op_ge (pe_callB c_abs (by rfl) T.m_abs (by decide +kernel) (pa_cons (pv 3) pa_nil)) (pe_op op_pow pe_int pe_int) (nomark _)) (pss_one (ps_set (i := 1) sc__law_spring.nd rfl (Or.inl rfl) (pe_op op_add (pe_op op_mul (pv 1) pe_int) (pe_callB c_abs (by rfl) T.m_abs (by decide +kernel) (pa_cons (pv 3) pa_nil))))) pss_nil)))))
    (pss_one (ps_ret (pe_lst (pa_cons (pv 1) (pa_cons (pv 2) (pa_cons pe_int pa_nil)))))))), fun R G cs post ⟨ns, e, q⟩ => ?_⟩
  subst e
  try simp only [cxK, cxK2]
  refine sw_seq (sw_asgG [1, 2] ?_)
  show EW _ _ [some (.dat (.list (pI ns))), Option.none, Option.none, Option.none] _
  repeat walk_at "ev"
  refine sw_for [3] (iw_list (ew_frz ?_))
  repeat walk_at "ev"
  refine slw_list rfl (exO (exL ?_))
  refine ⟨fun _ δ => ∃ (g m : Int) (c : Option Cl), δ = [some (.dat (.list (pI ns))), some (cI g), some (cI m), c] ∧ 0 ≤ m ∧ m < 2305843009213693951, ⟨0, 2908, Option.none, rfl, by decide, by decide⟩, ?_, ?_⟩
  · rintro i d δ1 hd ⟨g, m, c, rfl, h1, h2⟩
    obtain ⟨n, rfl⟩ := cut_ints ns _ _ (List.mem_of_getElem? hd)
    refine gw_name (by decide) ?_
    have c1 : ∀ x, CMul x 6364136223846793005 := fun x => .inr (by decide)
    have c2 : ∀ x, CMul 2 x := fun x => .inl (by decide)
    have c3 : ∀ x, CMul x 23 := fun x => .inr (by decide)
    repeat first | walk_at "ev" | exact c1 _ | exact c2 _ | exact (show (0 : Int) < 2305843009213693951 by decide) | exact cpow _ (by decide) _ (by decide)
    have hm : ∀ x : Int, 0 ≤ x % 2305843009213693951 ∧ x % 2305843009213693951 < 2305843009213693951 := fun x => by omega
    split
    · repeat first | walk_at "ev" | exact c3 _
      exact ⟨_, _, _, rfl, hm _⟩
    · repeat first | walk_at "ev" | exact c3 _
      exact ⟨_, _, _, rfl, hm _⟩
  · rintro δ1 ⟨g, m, c, rfl, h1, h2⟩
    refine sw_ret (ew_lst_own ?_)
    repeat walk_at "ev"
    exact q g m ⟨h1, h2⟩
theorem ok__law_dip : FnOk P w K mg base CX0 1 T.a__law_dip T.d__law_dip ["_law_spring_here", "_law_many"] (spD K dipF) := by
  refine fn_ok T.F__law_dip sc__law_dip (fun R cs post ⟨p, m, hR, e, _⟩ => by rw [e]; rfl) fun cdv A outer s H E hr => ⟨_, (pss_cons (ps_if (pt_cmpR op_gt (pe_ix ix_list (pv 0) pe_int (fun _ _ => rfl)) pe_int (nomark _)) (pss_cons (ps_set (i := 2) sc__law_dip.nd rfl (Or.inl rfl) (pe_op op_mod (pe_callTy c_int (by rfl) T.m_int (by decide +kernel) (pa_cons (pe_ix ix_list (pv 0) pe_int (fun _ _ => rfl)) pa_nil)) (pv 1)))
    (pss_cons (ps_asg (pe_op op_fdiv (pe_ix ix_list (pv 0) pe_int (fun _ _ => rfl)) (pv 1)) (pg_sub (pv 0) pe_int set_list))
    (pss_one (ps_ret (pv 2))))) pss_nil)
    (pss_cons (ps_asg (pe_op op_add (pe_ix ix_list (pv 0) pe_int (fun _ _ => rfl)) pe_int) (pg_sub (pv 0) pe_int set_list))
    (pss_cons (ps_asg (pe_op op_mod (pe_callTy c_int (by rfl) T.m_int (by decide +kernel) (pa_cons (pe_op op_add (pe_op op_add (pe_op op_mul (pe_ix ix_list (pv 0) pe_int (fun _ _ => rfl)) pe_int) (pe_op op_mul pe_int (pe_ix ix_list (pv 0) pe_int (fun _ _ => rfl)))) pe_int) pa_nil)) pe_int) (pg_sub (pv 0) pe_int set_list))
    (pss_one (ps_ret (pe_op op_mod (pe_callTy c_int (by rfl) T.m_int (by decide +kernel) (pa_cons (pe_op op_fdiv (pe_op op_mod (pe_callTy c_int (by rfl) T.m_int (by decide +kernel) (pa_cons (pe_op op_mul (pe_ix ix_list (pv 0) pe_int (fun _ _ => rfl)) (pe_ix ix_list (pv 0) pe_int (fun _ _ => rfl))) pa_nil)) pe_int) pe_int) pa_nil)) (pv 1))))))), fun R G cs post ⟨p, m, hR, e, ⟨h1, h2⟩, q⟩ => ?_⟩
  subst e hR
  try simp only [cxK, cxK2]
  refine sw_seq ?_
  show SW _ _ _ [some (.raw (.ref p)), some (cI m), Option.none]
  have cd : ∀ x, CDiv x m := fun x => ⟨h1, by omega⟩
  have md : ∀ x : Int, 0 ≤ x % m ∧ x % m < m := fun x => ⟨Int.emod_nonneg x (by omega), Int.emod_lt_of_pos x h1⟩
  repeat walk_at "ev"
  refine rw_ixSp rfl (by decide) fun n _ => ?_
  repeat walk_at "ev"
  split
  · repeat walk_at "ev"
    refine rw_ixSp rfl (by decide) fun n2 _ => ?_
    repeat first | walk_at "ev" | exact h1
    refine sw_setSp (p := p) rfl rfl ?_
    repeat walk_at "ev"
    refine rw_ixSp rfl (by decide) fun n3 _ => ?_
    repeat first | walk_at "ev" | exact cd _
    refine ⟨by decide, fun z => absurd z (by decide), ?_⟩
    repeat walk_at "ev"
    exact q _ (md _)
  · repeat walk_at "ev"
    refine sw_setSp (p := p) rfl rfl ?_
    repeat walk_at "ev"
    refine rw_ixSp rfl (by decide) fun n2 _ => ?_
    repeat walk_at "ev"
    refine ⟨by decide, fun z => absurd z (by decide), ?_⟩
    refine sw_seq (sw_setSp (p := p) rfl rfl ?_)
    repeat walk_at "ev"
    refine rw_ixSp rfl (by decide) fun n3 _ => ?_
    repeat first | walk_at "ev" | exact (show CMul n3 1103515245 from .inr (by decide))
    refine rw_ixSp rfl (by decide) fun n4 _ => ?_
    repeat first | walk_at "ev" | exact (show CMul 12345 n4 from .inl (by decide)) | exact (show (0 : Int) < 2305843009213693951 by decide)
    refine ⟨by decide, fun _ => by omega, ?_⟩
    repeat walk_at "ev"
    refine rw_ixSp rfl (by decide) fun n5 hn5 => ?_
    repeat walk_at "ev"
    refine rw_ixSp rfl (by decide) fun n6 hn6 => ?_
    have b5 := hn5 rfl
    repeat first | walk_at "ev" | exact h1 | exact (show CMul n5 n6 from .inl (by omega)) | exact (show (0 : Int) < 2305843009213693951 by decide) | exact (show CDiv _ 131071 from ⟨by decide, by decide⟩)
    exact q _ (md _)
theorem ok__law_pick : FnOk P w K mg base CX0 2 T.a__law_pick T.d__law_pick ["_law_spring_here", "_law_some"] (spD K pickF) := by
  refine fn_ok T.F__law_pick sc__law_pick (fun R cs post ⟨p, ds, hR, e, _⟩ => by rw [e]; rfl) fun cdv A outer s H E hr => ⟨_, (pss_one (ps_ret (pe_ix ix_list (pv 1) (pe_call (ok__law_dip T) (hr.mono (by decide)) (by rfl) T.g__law_dip T.F__law_dip.kp T.b__law_dip .nil pass0 (pa_cons (pv 0) (pa_cons (pe_callB c_len (by rfl) T.m_len (by decide +kernel) (pa_cons (pv 1) pa_nil)) pa_nil))) (fun _ _ => rfl)))), fun R G cs post ⟨p, ds, hR, e, ⟨h1, h2⟩, q⟩ => ?_⟩
  subst e hR
  try simp only [cxK, cxK2]
  refine sw_ret ?_
  show EW _ _ [some (.raw (.ref p)), some (.dat (.list ds))] _
  repeat walk_at "ev"
  refine cw_len (.inl rfl) ?_
  repeat walk_at "ev"
  have : 0 < ds.length := List.length_pos_iff.mpr h1
  refine ⟨by simp [ArgOk], p, _, rfl, rfl, by omega, fun k hk => ?_⟩
  obtain ⟨d, hd, he⟩ := atI_some hk
  refine rw_ixL rfl he (nsD (q d hd))
theorem ok__law_far : FnOk P w K mg base CX0 2 T.a__law_far T.d__law_far ["_law_spring_here", "_law_most"] (spD K farF) := by
  refine fn_ok T.F__law_far sc__law_far (fun R cs post ⟨p, m, hR, e, _⟩ => by rw [e]; rfl) fun cdv A outer s H E hr => ⟨_, (pss_one (ps_ret (pe_op op_add pe_int (pe_op op_mod (pe_callTy c_int (by rfl) T.m_int (by decide +kernel) (pa_cons (pe_op op_add (pe_op op_mul (pe_call (ok__law_dip T) (hr.mono (by decide)) (by rfl) T.g__law_dip T.F__law_dip.kp T.b__law_dip .nil pass0 (pa_cons (pv 0) (pa_cons (pe_op op_pow pe_int pe_int) pa_nil))) (pe_op op_pow pe_int pe_int)) (pe_call (ok__law_dip T) (hr.mono (by decide)) (by rfl) T.g__law_dip T.F__law_dip.kp T.b__law_dip .nil pass0 (pa_cons (pv 0) (pa_cons (pe_op op_pow pe_int pe_int) pa_nil)))) pa_nil)) (pv 1))))), fun R G cs post ⟨p, m, hR, e, h1, q⟩ => ?_⟩
  subst e hR
  try simp only [cxK, cxK2]
  refine sw_ret ?_
  show EW _ _ [some (.raw (.ref p)), some (cI m)] _
  repeat first | walk_at "ev" | exact cpow _ (by decide) _ (by decide)
  refine ⟨by simp [ArgOk], p, _, rfl, rfl, by decide, fun k hk => ?_⟩
  rw [pow6] at hk
  repeat first | walk_at "ev" | exact cpow _ (by decide) _ (by decide) | exact (show CMul k _ from .inl (by omega))
  refine ⟨by simp [ArgOk], p, _, rfl, rfl, by decide, fun k2 hk2 => ?_⟩
  repeat first | walk_at "ev" | exact h1
  have h3 := fun x => Int.emod_nonneg x (b := m) (by omega)
  have h4 := fun x => Int.emod_lt_of_pos x h1
  exact q _ (by
    have a1 := h3 (k * 10 ^ (6 : Int).toNat + k2)
    have a2 := h4 (k * 10 ^ (6 : Int).toNat + k2)
    omega)
end

theorem fdiv_eq {b p : Int} (hp : p ≠ 0) (h : b.fdiv p * p = b) (i : Int) : p * i = b ↔ i = b.fdiv p := by
  constructor
  · intro e
    have : p * i = p * b.fdiv p := by rw [e, Int.mul_comm p, h]
    exact Int.eq_of_mul_eq_mul_left hp this
  · rintro rfl
    rw [Int.mul_comm]
    exact h
theorem fdiv_mul {p i : Int} (hp : p ≠ 0) : (p * i).fdiv p * p = p * i := by
  rw [Int.mul_comm p i, Int.mul_fdiv_cancel _ hp]
theorem single_law {W : Nat} {p b : Int} (hp : p ≠ 0) : sumN W (fun i => br (p * (i : Int) = b)) = if (b.fdiv p * p = b ∧ 0 ≤ b.fdiv p) ∧ b.fdiv p < W then 1 else 0 := by
  by_cases h : b.fdiv p * p = b
  · by_cases h2 : 0 ≤ b.fdiv p ∧ b.fdiv p < W
    · rw [if_pos ⟨⟨h, h2.1⟩, h2.2⟩, ← sum_one h2.1 h2.2]
      exact sum_congr fun i _ => by rw [br_brc]; exact brc_congr (fdiv_eq hp h i)
    · rw [if_neg (fun z => h2 ⟨z.1.2, z.2⟩)]
      refine sum_zero fun i hi => ?_
      rw [br_brc]
      refine brc_false fun e => ?_
      have := (fdiv_eq hp h i).mp e
      omega
  · rw [if_neg (fun z => h z.1.1)]
    refine sum_zero fun i hi => ?_
    rw [br_brc]
    refine brc_false fun e => h ?_
    rw [← e]
    exact fdiv_mul hp
theorem single_zero (W : Nat) (b : Int) : sumN W (fun i => br (0 * (i : Int) = b)) = (W : Int) * if b = 0 then 1 else 0 := by
  rw [sum_congr (g := fun _ => if b = 0 then 1 else 0) fun i _ => ?_, sum_const]
  unfold br
  by_cases h : b = 0
  · rw [if_pos h, if_pos (by omega)]
  · rw [if_neg h, if_neg (by omega)]
def mulP : PyData → PyData
  | .tuple [.int a, .int b] => .int (a * b)
  | _ => .none
theorem dot_map : ∀ (ws ps : List Int), ((((L3.zipD (pI ws) (pI ps)).filter fun _ => true).map mulP)) = pI (ws.zipWith (· * ·) ps)
  | [], _ => rfl
  | _ :: _, [] => rfl
  | a :: ws, b :: ps => by
    have ih := dot_map ws ps
    unfold L3.zipD at ih ⊢
    simp only [List.map_cons, List.zip_cons_cons, List.filter_cons, if_true, List.zipWith_cons_cons] at ih ⊢
    rw [ih]
    rfl
theorem dot_sum : ∀ (ws ps : List Int), (ws.zipWith (· * ·) ps).sum = dotL ws ps
  | [], ps => by cases ps <;> rfl
  | _ :: _, [] => rfl
  | a :: ws, b :: ps => by
    rw [List.zipWith_cons_cons, List.sum_cons, dot_sum ws ps]
    rfl
theorem rng_int {n : Nat} {d : PyData} (h : d ∈ rngD 0 n) : ∃ i : Int, d = .int i := by
  unfold rngD at h
  obtain ⟨i, _, rfl⟩ := List.mem_map.mp h
  exact ⟨_, rfl⟩
section
variable {P : Program} {w : World} {K : PySem.W.Frag} {mg : Str → Option Value} {base : Heap} (T : Tp K mg)
theorem ok__law_weights : FnOk P w K mg base CX0 3 T.a__law_weights T.d__law_weights ["_law_spring_here", "_law_dims"] (spD K weightsF) := by
  refine fn_ok T.F__law_weights sc__law_weights (fun R cs post ⟨p, d, hR, e, _⟩ => by rw [e]; rfl) fun cdv A outer s H E hr => ⟨_, (pss_one (ps_ret (pe_callTy c_tup (by rfl) T.m_tuple (by decide +kernel) (pa_cons (pe_lc (own := [("_law_axis", 2)]) (by rfl) sc__law_weights.nd (pi_range1 (by rfl) T.m_range (pa_cons (pv 1) pa_nil)) (blkOk_by (own := [("_law_axis", 2)]) (N := ["_law_spring_here", "_law_dims", "_law_axis"]) (sc := defScope s__law_weights) (by decide +kernel)) (fun _ _ _ _ _ => (pg_name (i := 2) sc__law_weights.nd rfl (Or.inl rfl))) (fun _ _ _ _ _ => pts_nil) (fun _ _ _ _ _ => (pe_call (ok__law_pick T) (hr.mono (by decide)) (by rfl) T.g__law_pick T.F__law_pick.kp T.b__law_pick .nil pass0 (pa_cons (pv 0) (pa_cons (pe_lst (pa_cons pe_int (pa_cons pe_int (pa_cons pe_int (pa_cons pe_int (pa_cons (pe_un un_neg pe_int) (pa_cons (pe_un un_neg pe_int) (pa_cons pe_int (pa_cons pe_int (pa_cons (pe_op op_sub (pe_call (ok__law_dip T) (hr.mono (by decide)) (by rfl) T.g__law_dip T.F__law_dip.kp T.b__law_dip .nil pass0 (pa_cons (pv 0) (pa_cons pe_int pa_nil))) pe_int) pa_nil)))))))))) pa_nil))))) pa_nil)))), fun R G cs post ⟨p, d, hR, e, hd, q⟩ => ?_⟩
  subst e hR
  try simp only [cxK, cxK2]
  refine sw_ret (ew_cb (aw_cons (ew_lc ?_)))
  show IW _ _ [some (.raw (.ref p)), some (cI d), Option.none] _
  repeat walk_at "ev"
  refine ⟨d, rfl, by omega, by omega, fun i acc => ∃ ws : List Int, acc = pI ws ∧ ws.length = i ∧ ∀ x ∈ ws, Sm x, ⟨[], rfl, rfl, by simp⟩, by rw [rngD_len, sizeLine_eq]; omega, ?_, ?_⟩
  · rintro i e acc he _ ⟨ws, rfl, hl, hs⟩
    obtain ⟨n, rfl⟩ := rng_int (List.mem_of_getElem? he)
    refine gw_name (by decide) ?_
    refine tw_yes ?_
    rw [if_pos rfl]
    refine ew_call (aw_cons (ew_raw rfl (aw_cons (ew_lst ?_))))
    repeat walk_at "ev"
    refine ⟨by simp [ArgOk], p, _, rfl, rfl, by decide, fun k hk => ?_⟩
    repeat walk_at "ev"
    refine ⟨by simp [ArgOk], p, _, rfl, rfl, ⟨by simp, by simp⟩, fun e he => ?_⟩
    obtain ⟨x, hx, rfl⟩ : ∃ x : Int, Sm x ∧ e = .int x := by
      simp only [List.mem_cons, List.not_mem_nil, or_false] at he
      rcases he with h | h | h | h | h | h | h | h | h <;> refine ⟨_, ?_, h⟩ <;> constructor <;> omega
    refine ⟨_, rfl, ws ++ [x], by simp, by rw [List.length_append, hl]; rfl, fun y hy => ?_⟩
    rcases List.mem_append.mp hy with hy | hy
    · exact hs y hy
    · rw [List.mem_singleton.mp hy]
      exact hx
  · rintro acc ⟨ws, rfl, hl, hs⟩
    rw [rngD_len] at hl
    repeat walk_at "ev"
    refine cw_tup rfl (nsD ?_)
    exact q ws (by omega) hs
theorem ok__law_box : FnOk P w K mg base CX0 2 T.a__law_box T.d__law_box ["_law_spring_here", "_law_dims"] (spD K boxF) := by
  refine fn_ok T.F__law_box sc__law_box (fun R cs post ⟨p, d, hR, e, _⟩ => by rw [e]; rfl) fun cdv A outer s H E hr => ⟨_, (pss_cons (ps_set (i := 2) sc__law_box.nd rfl (Or.inr rfl) (pe_ix ix_list (pe_lst (pa_cons pe_int (pa_cons pe_int pa_nil))) (pe_op op_sub (pv 1) pe_int) (fun _ _ => rfl)))
    (pss_one (ps_ret (pe_callTy c_tupF (by rfl) T.m_tuple (by decide +kernel) (pa_cons (pe_lc (own := [("_law_axis", 3)]) (by rfl) sc__law_box.nd (pi_range1 (by rfl) T.m_range (pa_cons (pv 1) pa_nil)) (blkOk_by (own := [("_law_axis", 3)]) (N := ["_law_spring_here", "_law_dims", "_law_most", "_law_axis"]) (sc := defScope s__law_box) (by decide +kernel)) (fun _ _ _ _ _ => (pg_name (i := 3) sc__law_box.nd rfl (Or.inl rfl))) (fun _ _ _ _ _ => pts_nil) (fun _ _ _ _ _ => (pe_op op_add pe_int (pe_call (ok__law_dip T) (hr.mono (by decide)) (by rfl) T.g__law_dip T.F__law_dip.kp T.b__law_dip .nil pass0 (pa_cons (pv 0) (pa_cons (pv 2) pa_nil)))))) pa_nil))))), fun R G cs post ⟨p, d, hR, e, hd, q⟩ => ?_⟩
  subst e hR
  try simp only [cxK, cxK2]
  refine sw_seq (sw_asg (ew_op (ew_lst ?_)))
  show AW _ _ [some (.raw (.ref p)), some (cI d), Option.none, Option.none] _
  repeat walk_at "ev"
  have ha : atI [PyData.int 8, .int 5] (d - 2) = some (.int (if d = 2 then 8 else 5)) := by
    rcases hd with h | h <;> (subst h; rfl)
  refine rw_ixL rfl ha ?_
  generalize hm : (if d = 2 then 8 else 5 : Int) = m at q ⊢
  have hm1 : 0 < m ∧ m ≤ 8 := by
    rw [← hm]
    split <;> decide
  repeat walk_at "ev"
  refine ew_lc ?_
  repeat walk_at "ev"
  refine ⟨d, rfl, by omega, by omega, fun i acc => ∃ ws : List Int, acc = pI ws ∧ ws.length = i ∧ ∀ x ∈ ws, 1 ≤ x ∧ x ≤ m, ⟨[], rfl, rfl, by simp⟩, by rw [rngD_len, sizeLine_eq]; omega, ?_, ?_⟩
  · rintro i e acc he _ ⟨ws, rfl, hl, hs⟩
    obtain ⟨n, rfl⟩ := rng_int (List.mem_of_getElem? he)
    refine gw_name (by decide) ?_
    refine tw_yes ?_
    rw [if_pos rfl]
    repeat walk_at "ev"
    refine ⟨by simp [ArgOk], p, _, rfl, rfl, by omega, fun k hk => ?_⟩
    repeat walk_at "ev"
    refine ⟨ws ++ [1 + k], by simp, by rw [List.length_append, hl]; rfl, fun y hy => ?_⟩
    rcases List.mem_append.mp hy with hy | hy
    · exact hs y hy
    · rw [List.mem_singleton.mp hy]
      omega
  · rintro acc ⟨ws, rfl, hl, hs⟩
    rw [rngD_len] at hl
    repeat walk_at "ev"
    refine cw_tupF rfl (nsP ?_)
    exact q ws (by omega) hs
theorem ok__law_great : FnOk P w K mg base CX0 3 T.a__law_great T.d__law_great ["_law_spring_here", "_law_dims"] (spD K greatF) := by
  refine fn_ok T.F__law_great sc__law_great (fun R cs post ⟨p, d, hR, e, _⟩ => by rw [e]; rfl) fun cdv A outer s H E hr => ⟨_, (pss_cons (ps_set (i := 2) sc__law_great.nd rfl (Or.inr rfl) (pe_lst (pa_cons (pe_op op_pow pe_int pe_int) (pa_cons (pe_op op_sub (pe_op op_pow pe_int pe_int) pe_int) (pa_cons (pe_op op_add pe_int (pe_call (ok__law_dip T) (hr.mono (by decide)) (by rfl) T.g__law_dip T.F__law_dip.kp T.b__law_dip .nil pass0 (pa_cons (pv 0) (pa_cons pe_int pa_nil)))) (pa_cons (pe_call (ok__law_far T) (hr.mono (by decide)) (by rfl) T.g__law_far T.F__law_far.kp T.b__law_far .nil pass0 (pa_cons (pv 0) (pa_cons (pe_op op_pow pe_int pe_int) pa_nil))) (pa_cons (pe_call (ok__law_far T) (hr.mono (by decide)) (by rfl) T.g__law_far T.F__law_far.kp T.b__law_far .nil pass0 (pa_cons (pv 0) (pa_cons (pe_op op_pow pe_int pe_int) pa_nil))) pa_nil)))))))
    (pss_one (ps_ret (pe_callTy c_tupF (by rfl) T.m_tuple (by decide +kernel) (pa_cons (pe_lc (own := [("_law_axis", 3)]) (by rfl) sc__law_great.nd (pi_range1 (by rfl) T.m_range (pa_cons (pv 1) pa_nil)) (blkOk_by (own := [("_law_axis", 3)]) (N := ["_law_spring_here", "_law_dims", "_law_some", "_law_axis"]) (sc := defScope s__law_great) (by decide +kernel)) (fun _ _ _ _ _ => (pg_name (i := 3) sc__law_great.nd rfl (Or.inl rfl))) (fun _ _ _ _ _ => pts_nil) (fun _ _ _ _ _ => (pe_call (ok__law_pick T) (hr.mono (by decide)) (by rfl) T.g__law_pick T.F__law_pick.kp T.b__law_pick .nil pass0 (pa_cons (pv 0) (pa_cons (pv 2) pa_nil))))) pa_nil))))), fun R G cs post ⟨p, d, hR, e, hd, q⟩ => ?_⟩
  subst e hR
  try simp only [cxK, cxK2]
  refine sw_seq (sw_asg (ew_lst ?_))
  show AW _ _ [some (.raw (.ref p)), some (cI d), Option.none, Option.none] _
  have p9 : (10 : Int) ^ (9 : Int).toNat = 1000000000 := by decide
  repeat first | walk_at "ev" | exact cpow _ (by decide) _ (by decide)
  refine ⟨by simp [ArgOk], p, _, rfl, rfl, by decide, fun k1 hk1 => ?_⟩
  repeat first | walk_at "ev" | exact cpow _ (by decide) _ (by decide)
  refine ⟨by simp [ArgOk], p, _, rfl, rfl, by decide, fun k2 hk2 => ?_⟩
  repeat first | walk_at "ev" | exact cpow _ (by decide) _ (by decide)
  refine ⟨by simp [ArgOk], p, _, rfl, rfl, by decide, fun k3 hk3 => ?_⟩
  rw [p9] at hk2 hk3
  simp only [p9]
  repeat walk_at "ev"
  refine ew_lc ?_
  repeat walk_at "ev"
  refine ⟨d, rfl, by omega, by omega, fun i acc => ∃ ws : List Int, acc = pI ws ∧ ws.length = i ∧ ∀ x ∈ ws, 1 ≤ x ∧ x ≤ 1000000000, ⟨[], rfl, rfl, by simp⟩, by rw [rngD_len, sizeLine_eq]; omega, ?_, ?_⟩
  · rintro i e acc he _ ⟨ws, rfl, hl, hs⟩
    obtain ⟨n, rfl⟩ := rng_int (List.mem_of_getElem? he)
    refine gw_name (by decide) ?_
    refine tw_yes ?_
    rw [if_pos rfl]
    repeat walk_at "ev"
    refine ⟨by simp [ArgOk], p, _, rfl, rfl, ⟨by simp, by simp⟩, fun e he => ?_⟩
    obtain ⟨x, hx, rfl⟩ : ∃ x : Int, (1 ≤ x ∧ x ≤ 1000000000) ∧ e = .int x := by
      simp only [List.mem_cons, List.not_mem_nil, or_false] at he
      rcases he with h | h | h | h | h <;> refine ⟨_, ?_, h⟩ <;> constructor <;> omega
    refine ⟨_, rfl, ws ++ [x], by simp, by rw [List.length_append, hl]; rfl, fun y hy => ?_⟩
    rcases List.mem_append.mp hy with hy | hy
    · exact hs y hy
    · rw [List.mem_singleton.mp hy]
      exact hx
  · rintro acc ⟨ws, rfl, hl, hs⟩
    rw [rngD_len] at hl
    repeat walk_at "ev"
    refine cw_tupF rfl (nsP ?_)
    exact q ws (by omega) hs
theorem ok__law_dot : FnOk P w K mg base CX0 1 T.a__law_dot T.d__law_dot ["_law_one", "_law_other"] (spD K dotF) := by
  refine fn_ok T.F__law_dot sc__law_dot (fun R cs post ⟨ws, ps, c, e, _⟩ => by rw [e]; rfl) fun cdv A outer s H E hr => ⟨_, (pss_one (ps_ret (pe_callB (cr_sum rfl) (by rfl) T.m_sum (by decide +kernel) (pa_cons (pe_lc (own := [("_law_left", 2), ("_law_right", 3)]) (by rfl) sc__law_dot.nd (pi_z2 (by rfl) T.m_zip (pa_cons (pv 0) (pa_cons (pv 1) pa_nil))) (blkOk_by (own := [("_law_left", 2), ("_law_right", 3)]) (N := ["_law_one", "_law_other", "_law_left", "_law_right"]) (sc := defScope s__law_dot) (by decide +kernel)) (fun _ _ _ _ _ => (pg_tupK (K := K) (n := 2) rfl rfl (pgs_cons (pg_name (i := 2) sc__law_dot.nd rfl (Or.inl rfl)) (pgs_cons (pg_name (i := 3) sc__law_dot.nd rfl (Or.inl rfl)) pgs_nil)))) (fun _ _ _ _ _ => pts_nil) (fun _ _ _ _ _ => (pe_op op_mul (pv 2) (pv 3)))) pa_nil)))), fun R G cs post ⟨ws, ps, c, e, hc, hl, hs, q⟩ => ?_⟩
  subst e
  try simp only [cxK, cxK2]
  have key : ∀ k2, IsSqK k2 c (pI ps) → (∃ d, c = .dat d) → SW ⟨K, R, G, H⟩ (tRet (tCB (rSum K) (tCons (tLc (iZ2 K (tCons (tVar 0) (tCons (tVar 1) tNil))) (gTup K 2 (gCons (gName 2) (gCons (gName 3) gNil))) tYes (tOp (rI CMul fun i j => .int (i * j)) (tVar 2) (tVar 3)) [2, 3]) tNil))) ⟨fun _ => post (.dat .none), post, fun _ => False, fun _ => False⟩ [some (.dat (.tuple (pI ws))), some c, Option.none, Option.none] := fun k2 hk ⟨d, ed⟩ => by
    subst ed
    refine sw_ret (ew_cb (aw_cons (ew_lc_map ?_)))
    repeat walk_at "ev"
    refine ⟨true, k2, _, _, pI ws, pI ps, rfl, rfl, hk, fun _ => true, mulP, ?_, ?_, ?_⟩
    · unfold L3.zipD
      rw [List.length_map, List.length_zip, List.length_map, sizeLine_eq]
      omega
    · intro e he
      unfold L3.zipD at he
      obtain ⟨⟨a, b⟩, hab, rfl⟩ := List.mem_map.mp he
      obtain ⟨x, hx, ea⟩ := List.mem_map.mp (List.of_mem_zip hab).1
      obtain ⟨y, hy, eb⟩ := List.mem_map.mp (List.of_mem_zip hab).2
      subst ea eb
      have sx := hs x hx
      refine gw_tup rfl ?_
      repeat walk_at "ev"
      refine ⟨rfl, fun _ => ?_⟩
      repeat first | walk_at "ev" | exact (show CMul x y from .inl (by obtain ⟨z1, z2⟩ := sx; omega))
      rfl
    · repeat walk_at "ev"
      refine cw_sum (dot_map ws ps) (nsD ?_)
      rw [dot_sum]
      exact q
  rcases hc with rfl | rfl
  · exact key false rfl ⟨_, rfl⟩
  · exact key true rfl ⟨_, rfl⟩
theorem ok__law_between : FnOk P w K mg base CX0 1 T.a__law_between T.d__law_between ["_law_low", "_law_high", "_law_first", "_law_step"] (spD K betweenF) := by
  refine fn_ok T.F__law_between sc__law_between (fun R cs post ⟨a, b, c, d, e, _⟩ => by rw [e]; rfl) fun cdv A outer s H E hr => ⟨_, (pss_cons (ps_if (pt_cmpR op_lt (pv 1) (pv 0) (nomark _)) (pss_one (ps_ret pe_int)) pss_nil)
    (pss_one (ps_ret (pe_op op_sub (pe_op op_fdiv (pe_op op_sub (pv 1) (pv 2)) (pv 3)) (pe_op op_fdiv (pe_op op_sub (pe_op op_sub (pv 0) pe_int) (pv 2)) (pv 3)))))), fun R G cs post ⟨lo, hi, f, st, e, ⟨h1, h2⟩, q⟩ => ?_⟩
  subst e
  try simp only [cxK, cxK2]
  refine sw_seq ?_
  show SW _ _ _ [some (cI lo), some (cI hi), some (cI f), some (cI st)]
  unfold betw at q
  have cd : ∀ x, CDiv x st := fun x => ⟨h1, by omega⟩
  repeat walk_at "ev"
  by_cases h : hi < lo
  · rw [if_pos (by simp [h])]
    rw [if_pos h] at q
    repeat walk_at "ev"
    exact q
  · rw [if_neg (by simp [h])]
    rw [if_neg h] at q
    repeat first | walk_at "ev" | exact cd _
    exact q
theorem ok__law_single : FnOk P w K mg base CX0 1 T.a__law_single T.d__law_single ["_law_weight", "_law_size", "_law_beat"] (spD K singleF) := by
  refine fn_ok T.F__law_single sc__law_single (fun R cs post ⟨p, W, b, e, _⟩ => by rw [e]; rfl) fun cdv A outer s H E hr => ⟨_, (pss_cons (ps_if (pt_cmpR op_eq (pv 0) pe_int (nomark _)) (pss_one (ps_ret (pe_op op_mul (pv 1) (pe_callTy c_int (by rfl) T.m_int (by decide +kernel) (pa_cons (pe_cmpR op_eq (pv 2) pe_int (nomark _)) pa_nil))))) pss_nil)
    (pss_one (ps_ret (pe_callTy c_int (by rfl) T.m_int (by decide +kernel) (pa_cons (pe_and (pe_cmpR op_eq (pe_op op_mul (pe_op op_fdivN (pv 2) (pv 0)) (pv 0)) (pv 2) (nomark _)) (pe_one (pe_chain op_le op_lt pe_int (pe_op op_fdivN (pv 2) (pv 0)) (pv 1)))) pa_nil))))), fun R G cs post ⟨p, W, b, e, ⟨h1, h2⟩, ⟨h3, h4⟩, q⟩ => ?_⟩
  subst e
  try simp only [cxK, cxK2]
  refine sw_seq ?_
  show SW _ _ _ [some (cI p), some (cI W), some (cI b)]
  repeat walk_at "ev"
  by_cases h : p = 0
  · rw [if_pos (by simp [h])]
    subst h
    rw [single_zero] at q
    have c1 : ∀ x, CMul (W : Int) x := fun x => .inl (by omega)
    repeat first | walk_at "ev" | exact c1 _
    simp only [decide_eq_true_eq]
    exact q
  · rw [if_neg (by simp [h])]
    rw [single_law h] at q
    have c1 : ∀ x, CDivN x p := fun x => ⟨h, by omega⟩
    have c2 : ∀ x, CMul x p := fun x => .inr (by omega)
    repeat first | walk_at "ev" | exact c1 _ | exact c2 _
    by_cases e1 : b.fdiv p * p = b
    · rw [if_pos (by simp [e1])]
      repeat first | walk_at "ev" | exact c1 _ | exact c2 _
      by_cases e2 : 0 ≤ b.fdiv p
      · rw [if_pos (by simp [e2])]
        repeat first | walk_at "ev" | exact c1 _ | exact c2 _
        simp only [decide_eq_true_eq]
        simp only [e1, e2, true_and, and_true] at q
        exact q
      · rw [if_neg (by simp [e2])]
        repeat walk_at "ev"
        rw [if_neg (fun z => e2 z.1.2)] at q
        exact q
    · rw [if_neg (by simp [e1])]
      repeat walk_at "ev"
      rw [if_neg (fun z => e1 z.1.1)] at q
      exact q
end

def stp (found : List (List Int)) (n : Nat) : List (List Int) := found.flatMap fun a => (List.range n).map fun (i : Nat) => a ++ [(i : Int)]
abbrev tup (xs : List Int) : PyData := .tuple (pI xs)
theorem stp_len (n : Nat) : ∀ l : List (List Int), (stp l n).length = l.length * n
  | [] => by simp [stp]
  | a :: l => by
    have ih := stp_len n l
    unfold stp at ih ⊢
    rw [List.flatMap_cons, List.length_append, ih, List.length_map, List.length_range, List.length_cons]
    grind
theorem fold_len : ∀ (bs : List Nat) (acc : List (List Int)), (∀ b ∈ bs, b ≤ 8) → (bs.foldl stp acc).length ≤ acc.length * 8 ^ bs.length
  | [], acc, _ => by simp
  | b :: bs, acc, h => by
    have ih := fold_len bs (stp acc b) fun x hx => h x (List.mem_cons_of_mem _ hx)
    rw [stp_len] at ih
    refine Nat.le_trans ih ?_
    rw [List.length_cons, Nat.pow_succ, Nat.mul_comm (8 ^ bs.length) 8, ← Nat.mul_assoc]
    exact Nat.mul_le_mul_right _ (Nat.mul_le_mul_left _ (h b List.mem_cons_self))
theorem fold_mem : ∀ (bs : List Nat) (acc : List (List Int)) (k : Nat), (∀ a ∈ acc, a.length ≤ k) → ∀ a ∈ bs.foldl stp acc, a.length ≤ k + bs.length
  | [], acc, k, h, a, ha => h a ha
  | b :: bs, acc, k, h, a, ha => by
    have := fold_mem bs (stp acc b) (k + 1) (fun x hx => by
      unfold stp at hx
      obtain ⟨y, hy, hx⟩ := List.mem_flatMap.mp hx
      obtain ⟨i, _, rfl⟩ := List.mem_map.mp hx
      have := h y hy
      simp
      omega) a ha
    simp only [List.length_cons]
    omega
def addI (a : List Int) : PyData → PyData
  | .int i => tup (a ++ [i])
  | _ => .none
theorem rng_add (a : List Int) (n : Nat) : (((rngD 0 n).filter fun _ => true).map (addI a)) = ((List.range n).map fun (i : Nat) => a ++ [(i : Int)]).map tup := by
  rw [List.filter_eq_self.mpr fun _ _ => rfl]
  unfold rngD
  rw [List.map_map, List.map_map]
  refine List.map_congr_left fun i _ => ?_
  show tup (a ++ [0 + (i : Int)]) = tup (a ++ [(i : Int)])
  rw [Int.zero_add]
theorem pow8 {k : Nat} (h : k ≤ 3) : 8 ^ k ≤ 512 := Nat.le_trans (Nat.pow_le_pow_right (by decide) h) (by decide)
section
variable {P : Program} {w : World} {K : PySem.W.Frag} {mg : Str → Option Value} {base : Heap} (T : Tp K mg)
theorem ok__law_points : FnOk P w K mg base CX0 1 T.a__law_points T.d__law_points ["_law_box_here"] (spD K pointsF) := by
  refine fn_ok T.F__law_points sc__law_points (fun R cs post ⟨bs, e, _⟩ => by rw [e]; rfl) fun cdv A outer s H E hr => ⟨_, (pss_cons (ps_set (i := 1) sc__law_points.nd rfl (Or.inl rfl) (pe_lst (pa_cons (pe_tup pa_nil) pa_nil)))
    (pss_cons (ps_for PassesOwn.never rfl (pi_tup (pv 0)) (pg_name (i := 2) sc__law_points.nd rfl (Or.inl rfl))
      (pss_cons (ps_set (i := 3) sc__law_points.nd rfl (Or.inl rfl) (pe_lst pa_nil))
    (pss_cons (ps_for PassesOwn.never rfl (pi_list (pv 1)) (pg_name (i := 4) sc__law_points.nd rfl (Or.inr rfl))
      (pss_one (ps_expr (pe_bm PySem.F.plainAttrs_list PySem.F.slot_list_extend PySem.F.type_list_extend mt_extend (pv 3) (pa_cons (pe_lc (own := [("_law_item", 5)]) (by rfl) sc__law_points.nd (pi_range1 (by rfl) T.m_range (pa_cons (pv 2) pa_nil)) (blkOk_by (own := [("_law_item", 5)]) (N := ["_law_box_here", "_law_found", "_law_size", "_law_longer", "_law_ahead", "_law_item"]) (sc := defScope s__law_points) (by decide +kernel)) (fun _ _ _ _ _ => (pg_name (i := 5) sc__law_points.nd rfl (Or.inl rfl))) (fun _ _ _ _ _ => pts_nil) (fun _ _ _ _ _ => (pe_op (opK_catA (K := K) rfl) (pv 4) (pe_tup (pa_cons (pv 5) pa_nil))))) pa_nil)))))
    (pss_one (ps_set (i := 1) sc__law_points.nd rfl (Or.inl rfl) (pv 3))))))
    (pss_one (ps_ret (pv 1))))), fun R G cs post ⟨bs, e, ⟨hb, h8⟩, q⟩ => ?_⟩
  subst e
  try simp only [cxK, cxK2]
  refine sw_seq (sw_asg (ew_lst ?_))
  show AW _ _ [some (.dat (.tuple (pI (bs.map fun (b : Nat) => (b : Int))))), Option.none, Option.none, Option.none, Option.none, Option.none] _
  repeat walk_at "ev"
  refine sw_for [2] (iw_tup (ew_var rfl ⟨_, rfl, ?_⟩))
  refine ⟨fun i δ => ∃ m2 m3 m4, δ = [some (.dat (.tuple (pI (bs.map fun (b : Nat) => (b : Int))))), some (.dat (.list (((bs.take i).foldl stp [[]]).map tup))), m2, m3, m4, Option.none], ⟨_, _, _, rfl⟩, ?_, ?_⟩
  · rintro i d δ1 hd ⟨m2, m3, m4, rfl⟩
    have hi : i < bs.length := by
      have := (List.getElem?_eq_some_iff.mp hd).1
      simpa using this
    obtain ⟨n, hn, rfl⟩ : ∃ n : Nat, bs[i]? = some n ∧ d = .int (n : Int) := by
      refine ⟨bs[i], List.getElem?_eq_getElem hi, ?_⟩
      rw [List.getElem?_map, List.getElem?_map, List.getElem?_eq_getElem hi] at hd
      exact (Option.some.inj hd).symm
    have n8 : n ≤ 8 := h8 n (List.mem_of_getElem? hn)
    have hF := fold_len (bs.take i) [[]] fun b hb' => h8 b (List.mem_of_mem_take hb')
    have hM := fold_mem (bs.take i) [[]] 0 (by simp)
    have hti : (bs.take i).length ≤ 3 := by rw [List.length_take]; omega
    have p8 := pow8 hti
    have hF' : ((bs.take i).foldl stp [[]]).length ≤ 512 := by
      rw [List.length_singleton, Nat.one_mul] at hF
      exact Nat.le_trans hF p8
    have hnext : (bs.take (i + 1)).foldl stp [[]] = stp ((bs.take i).foldl stp [[]]) n := by
      rw [List.take_add_one, hn]
      simp [List.foldl_append]
    generalize (bs.take i).foldl stp [[]] = F at hF' hM hnext ⊢
    refine gw_name (by decide) ?_
    refine sw_seq (sw_asg (ew_lst_own (aw_nil (ex0 (nsO ?_)))))
    refine sw_seq (sw_for [4] (iw_list (ew_var rfl ⟨_, rfl, ?_⟩)))
    refine ⟨fun j δ => ∃ m4, δ = [some (.dat (.tuple (pI (bs.map fun (b : Nat) => (b : Int))))), some (.dat (.list (F.map tup))), some (cI n), some (.own ((stp (F.take j) n).map tup)), m4, Option.none], ⟨_, rfl⟩, ?_, ?_⟩
    · rintro j d δ2 hd2 ⟨m5, rfl⟩
      rw [List.getElem?_map] at hd2
      cases ea : F[j]? with
      | none =>
        rw [ea] at hd2
        cases hd2
      | some a =>
        rw [ea] at hd2
        cases hd2
        have la := hM a (List.mem_of_getElem? ea)
        refine gw_name (by decide) ?_
        refine sw_extend rfl (ew_lc_map (iw_rng1 (aw_cons (ew_var rfl (aw_nil ⟨_, rfl, by omega, by omega, fun _ => true, addI a, by rw [rngD_len, sizeLine_eq]; omega, ?_, ?_⟩)))))
        · intro d hd
          obtain ⟨x, rfl⟩ := rng_int hd
          refine gw_name (by decide) ?_
          repeat walk_at "ev"
          refine ⟨rfl, fun _ => ?_⟩
          repeat walk_at "ev"
          refine rw_catT ?_ ?_
          · rw [List.length_map, sizeLine_eq]
            simp
            omega
          · simp [addI]
        · have key : (stp (F.take j) n).map tup ++ (((rngD 0 (n : Int).toNat).filter fun _ => true).map (addI a)) = (stp (F.take (j + 1)) n).map tup := by
            rw [Int.toNat_natCast, rng_add, ← List.map_append]
            congr 1
            unfold stp
            rw [List.take_add_one, ea]
            simp
          refine exO ⟨?_, ?_⟩
          · rw [← List.length_append, key, List.length_map, stp_len, sizeLine_eq]
            have h1 : (F.take (j + 1)).length ≤ 512 := by rw [List.length_take]; omega
            have := Nat.mul_le_mul h1 n8
            omega
          · rw [key]
            exact ⟨_, rfl⟩
    · rintro δ2 ⟨m5, rfl⟩
      rw [List.length_map, List.take_length]
      refine sw_frz (i := 3) rfl (sw_asg (ew_var rfl (nsD ?_)))
      exact ⟨some (cI n), some (.dat (.list ((stp F n).map tup))), m5, by rw [hnext]; rfl⟩
  · rintro δ1 ⟨m2, m3, m4, rfl⟩
    refine sw_ret (ew_var rfl (nsD ?_))
    rw [show (pI (bs.map fun (b : Nat) => (b : Int))).length = bs.length by simp, List.take_length]
    exact q
end

theorem canLay_pI : ∀ ns : List Int, PyData.canLayAll0 (pI ns) = true
  | [] => rfl
  | n :: ns => by
    show (PyData.canLay0 (.int n) && PyData.canLayAll0 (pI ns)) = true
    rw [canLay_pI ns]
    rfl
theorem shaped_pI (ns : List Int) : SeqAt.shaped (.list (pI ns)) = true := by
  unfold SeqAt.shaped
  rw [Bool.and_eq_true]
  refine ⟨canLay_pI ns, decide_eq_true ?_⟩
  have := depth_ints ns
  simp [PyData.depth, this]
theorem atI_head (x : PyData) (xs : List PyData) : atI (x :: xs) 0 = some x := by
  unfold atI ixN
  rw [if_pos (by decide), List.length_cons, if_pos (show (0 : Int) < ((xs.length + 1 : Nat) : Int) by omega)]
  rfl
def prS (p q b : Int) : PyData → Bool
  | .int i => decide ((b - p * i).fdiv q * q = b - p * i)
  | _ => false
theorem st_map (p q b : Int) : (((rngD 0 q.natAbs).filter (prS p q b)).map fun d => d) = pI (stL p q b) := by
  rw [List.map_id']
  unfold rngD stL pI
  rw [List.filter_map, List.filter_map, List.map_map]
  congr 1
  · funext i
    show PyData.int (0 + (i : Int)) = .int (i : Int)
    rw [Int.zero_add]
  · congr 1
    funext i
    show decide ((b - p * (0 + (i : Int))).fdiv q * q = b - p * (0 + (i : Int))) = _
    rw [Int.zero_add]
    rfl
section
variable {P : Program} {w : World} {K : PySem.W.Frag} {mg : Str → Option Value} {base : Heap} (T : Tp K mg)
theorem ok__law_double : FnOk P w K mg base CX0 2 T.a__law_double T.d__law_double ["_law_weights_here", "_law_box_here", "_law_beat"] (spD K doubleF) := by
  refine fn_ok T.F__law_double sc__law_double (fun R cs post ⟨W, V, p, q, b, e, _⟩ => by rw [e]; rfl) fun cdv A outer s H E hr => ⟨_, (pss_cons (ps_asg (pv 0) (pg_tup (by rfl) (pgs_cons (pg_name (i := 3) sc__law_double.nd rfl (Or.inr rfl)) (pgs_cons (pg_name (i := 4) sc__law_double.nd rfl (Or.inr rfl)) pgs_nil))))
    (pss_cons (ps_if (pt_cmpR op_eq (pv 4) pe_int (nomark _)) (pss_one (ps_ret (pe_op op_mul (pe_ix ix_tup (pv 1) pe_int (fun _ _ => rfl)) (pe_call (ok__law_single T) (hr.mono (by decide)) (by rfl) T.g__law_single T.F__law_single.kp T.b__law_single .nil pass0 (pa_cons (pv 3) (pa_cons (pe_ix ix_tup (pv 1) pe_int (fun _ _ => rfl)) (pa_cons (pv 2) pa_nil))))))) pss_nil)
    (pss_cons (ps_if (pt_cmpR op_eq (pv 3) pe_int (nomark _)) (pss_one (ps_ret (pe_op op_mul (pe_ix ix_tup (pv 1) pe_int (fun _ _ => rfl)) (pe_call (ok__law_single T) (hr.mono (by decide)) (by rfl) T.g__law_single T.F__law_single.kp T.b__law_single .nil pass0 (pa_cons (pv 4) (pa_cons (pe_ix ix_tup (pv 1) pe_int (fun _ _ => rfl)) (pa_cons (pv 2) pa_nil))))))) pss_nil)
    (pss_cons (ps_setLc (i := 5) (own := [("_law_item", 10)]) (by rfl) sc__law_double.nd rfl rfl (sw_true rfl rfl rfl (by decide +kernel)) (pi_range1 (by rfl) T.m_range (pa_cons (pe_callB c_abs (by rfl) T.m_abs (by decide +kernel) (pa_cons (pv 4) pa_nil)) pa_nil)) (blkOk_by (own := [("_law_item", 10)]) (N := ["_law_weights_here", "_law_box_here", "_law_beat", "_law_one", "_law_other", "_law_starts", "_law_step", "_law_ends", "_law_low", "_law_high", "_law_item"]) (sc := defScope s__law_double) (by decide +kernel)) (fun _ _ _ _ _ => (pg_name (i := 10) sc__law_double.nd rfl (Or.inl rfl))) (fun _ _ _ _ _ => (pts_one (pt_cmpR op_eq (pe_op op_mul (pe_op op_fdivN (pe_op op_sub (pv 2) (pe_op op_mul (pv 3) (pv 10))) (pv 4)) (pv 4)) (pe_op op_sub (pv 2) (pe_op op_mul (pv 3) (pv 10))) (nomark _)))) (fun _ _ _ _ _ => (pv 10)))
    (pss_cons (ps_if (pt_cmpR (op_eqD hr.units) (pv 5) (pe_lst pa_nil) (nomark _)) (pss_one (ps_ret pe_int)) pss_nil)
    (pss_cons (ps_par (i := 6) (j := 7) rfl sc__law_double.nd rfl rfl (by decide) rfl rfl (pa_cons (pe_op op_fdiv (pe_callB c_abs (by rfl) T.m_abs (by decide +kernel) (pa_cons (pv 4) pa_nil)) (pe_call (ok__law_gcd T) (hr.mono (by decide)) (by rfl) T.g__law_gcd T.F__law_gcd.kp T.b__law_gcd .nil pass0 (pa_cons (pv 3) (pa_cons (pv 4) pa_nil)))) (pa_cons (pe_lst (pa_cons (pv 2) (pa_cons (pe_op op_sub (pv 2) (pe_op op_mul (pv 4) (pe_op op_sub (pe_ix ix_tup (pv 1) pe_int (fun _ _ => rfl)) pe_int))) pa_nil))) pa_nil)) (by rfl))
    (pss_cons (ps_par (i := 8) (j := 9) rfl sc__law_double.nd rfl rfl (by decide) rfl rfl (pa_cons (pe_callB (c_minI rfl (hu_of hr)) (by rfl) T.m_min (by decide +kernel) (pa_cons (pv 7) pa_nil)) (pa_cons (pe_callB (c_maxI rfl (hu_of hr)) (by rfl) T.m_max (by decide +kernel) (pa_cons (pv 7) pa_nil)) pa_nil)) (by rfl))
    (pss_cons (ps_if (pt_cmpR op_lt (pv 3) pe_int (nomark _)) (pss_one (ps_par (i := 8) (j := 9) rfl sc__law_double.nd rfl rfl (by decide) rfl rfl (pa_cons (pe_op op_sub pe_int (pv 9)) (pa_cons (pe_op op_sub pe_int (pv 8)) pa_nil)) (by rfl))) pss_nil)
    (pss_cons (ps_par (i := 8) (j := 9) rfl sc__law_double.nd rfl rfl (by decide) rfl rfl (pa_cons (pe_op op_sub pe_int (pe_op op_fdiv (pe_op op_sub pe_int (pv 8)) (pe_callB c_abs (by rfl) T.m_abs (by decide +kernel) (pa_cons (pv 3) pa_nil)))) (pa_cons (pe_op op_fdiv (pv 9) (pe_callB c_abs (by rfl) T.m_abs (by decide +kernel) (pa_cons (pv 3) pa_nil))) pa_nil)) (by rfl))
    (pss_one (ps_ret (pe_call (ok__law_between T) (hr.mono (by decide)) (by rfl) T.g__law_between T.F__law_between.kp T.b__law_between .nil pass0 (pa_cons (pe_callB (c_max2 rfl) (by rfl) T.m_max (by decide +kernel) (pa_cons pe_int (pa_cons (pv 8) pa_nil))) (pa_cons (pe_callB (c_min2 rfl) (by rfl) T.m_min (by decide +kernel) (pa_cons (pe_op op_sub (pe_ix ix_tup (pv 1) pe_int (fun _ _ => rfl)) pe_int) (pa_cons (pv 9) pa_nil))) (pa_cons (pe_ix ix_list (pv 5) pe_int (fun _ _ => rfl)) (pa_cons (pv 6) pa_nil)))))))))))))))), fun R G cs post ⟨W, V, p, q, b, e, ⟨hW, hV⟩, ⟨hp, hq⟩, fin⟩ => ?_⟩
  subst e
  try simp only [cxK, cxK2]
  refine sw_seq (sw_asgG [3, 4] ?_)
  show EW _ _ [some (.dat (.tuple [.int p, .int q])), some (.dat (.tuple [.int (W : Int), .int (V : Int)])), some (cI b), Option.none, Option.none, Option.none, Option.none, Option.none, Option.none, Option.none, Option.none] _
  have hW1 := hW.1
  have hW2 := hW.2
  have hV1 := hV.1
  have hV2 := hV.2
  have cW : ∀ x, CMul (W : Int) x := fun x => .inl (by omega)
  have cV : ∀ x, CMul (V : Int) x := fun x => .inl (by omega)
  repeat walk_at "ev"
  by_cases h0 : q = 0
  · rw [if_pos (by simp [h0])]
    subst h0
    rw [N2_col0] at fin
    repeat walk_at "ev"
    refine ⟨by simp [ArgOk], p, W, b, rfl, hW, hp, ?_⟩
    repeat first | walk_at "ev" | exact cV _
    exact fin
  rw [if_neg (by simp [h0])]
  repeat walk_at "ev"
  by_cases h1 : p = 0
  · rw [if_pos (by simp [h1])]
    subst h1
    rw [N2_row0] at fin
    repeat walk_at "ev"
    refine ⟨by simp [ArgOk], q, V, b, rfl, hV, hq, ?_⟩
    repeat first | walk_at "ev" | exact cW _
    exact fin
  rw [if_neg (by simp [h1])]
  have hp' := hp
  have hq' := hq
  obtain ⟨p1, p2⟩ := hp'
  obtain ⟨q1, q2⟩ := hq'
  have cp : ∀ x, CMul p x := fun x => .inl (by omega)
  have cq : ∀ x, CMul q x := fun x => .inl (by omega)
  have cq' : ∀ x, CMul x q := fun x => .inr (by omega)
  have dq : ∀ x, CDivN x q := fun x => ⟨h0, by omega⟩
  repeat walk_at "ev"
  refine ew_frz (ew_lc_map ?_)
  repeat walk_at "ev"
  refine ⟨_, rfl, by omega, by omega, prS p q b, fun d => d, by rw [rngD_len, sizeLine_eq]; omega, ?_, ?_⟩
  · intro d hd
    obtain ⟨x, rfl⟩ := rng_int hd
    refine gw_name (by decide) ?_
    repeat first | walk_at "ev" | exact cp _ | exact cq' _ | exact dq _
    refine ⟨rfl, fun _ => ?_⟩
    repeat walk_at "ev"
    rfl
  rw [Int.toNat_natCast, st_map]
  repeat walk_at "ev"
  refine ew_lst ?_
  repeat walk_at "ev"
  refine rw_eqL (xs := pI (stL p q b)) (ys := []) rfl rfl (shaped_pI _) (shaped_pI []) ?_
  repeat walk_at "ev"
  cases hS : stL p q b with
  | nil =>
    rw [if_pos (by rfl)]
    repeat walk_at "ev"
    rw [stL_none h0 hS] at fin
    exact fin
  | cons f rest =>
    have hf : f ∈ stL p q b := by
      rw [hS]
      exact List.mem_cons_self
    rw [if_neg (by simp [PyData.eqv, PyData.eqvAll])]
    obtain ⟨st, eS, ⟨g1, g2⟩, ⟨s1, s2⟩, sA, sB⟩ := step_facts hp hq h0
    refine sw_next ?_
    refine sw_seq (sw_par ?_)
    repeat walk_at "ev"
    refine ⟨by simp [ArgOk], p, q, rfl, ?_⟩
    repeat first | walk_at "ev" | exact (show CDiv _ _ from ⟨by omega, by omega⟩)
    refine ew_lst ?_
    repeat first | walk_at "ev" | exact cq _
    refine sw_par ?_
    repeat walk_at "ev"
    refine cw_minI (ns := [b, b - q * ((V : Int) - 1)]) (.inl rfl) (by simp) ?_
    repeat walk_at "ev"
    refine cw_maxI (ns := [b, b - q * ((V : Int) - 1)]) (.inl rfl) (by simp) ?_
    have hL : lmin [b, b - q * ((V : Int) - 1)] = min b (b - q * ((V : Int) - 1)) := rfl
    have hU : lmax [b, b - q * ((V : Int) - 1)] = max b (b - q * ((V : Int) - 1)) := rfl
    generalize lmin [b, b - q * ((V : Int) - 1)] = L at hL ⊢
    generalize lmax [b, b - q * ((V : Int) - 1)] = U at hU ⊢
    have law := N2_double (W := W) (V := V) hV1 h1 h0 s1 sA sB (stL_dvd hf) hL hU
    unfold lowD highD at law
    have dp : ∀ x, CDiv x (p.natAbs : Int) := fun x => ⟨by omega, by omega⟩
    have a0 : atI (pI (f :: rest)) 0 = some (.int f) := atI_head _ _
    repeat walk_at "ev"
    by_cases hn : p < 0
    · rw [if_pos hn, if_pos hn] at law
      rw [if_pos (by simp [hn])]
      refine sw_par ?_
      repeat walk_at "ev"
      refine sw_par ?_
      repeat first | walk_at "ev" | exact dp _
      refine rw_ixL rfl a0 ?_
      repeat walk_at "ev"
      refine ⟨by simp [ArgOk], _, _, _, _, rfl, by rw [eS]; exact ⟨s1, s2⟩, nsD ?_⟩
      rw [eS, law]
      exact fin
    · rw [if_neg hn, if_neg hn] at law
      rw [if_neg (by simp [hn])]
      repeat walk_at "ev"
      refine sw_par ?_
      repeat first | walk_at "ev" | exact dp _
      refine rw_ixL rfl a0 ?_
      repeat walk_at "ev"
      refine ⟨by simp [ArgOk], _, _, _, _, rfl, by rw [eS]; exact ⟨s1, s2⟩, nsD ?_⟩
      rw [eS, law]
      exact fin
end

section
variable {P : Program} {w : World} {K : PySem.W.Frag} {mg : Str → Option Value} {base : Heap} (T : Tp K mg)
theorem ok__law_due : FnOk P w K mg base CX0 3 T.a__law_due T.d__law_due ["_law_weights_here", "_law_box_here", "_law_beat"] (spD K dueF) := by
  refine fn_ok T.F__law_due sc__law_due (fun R cs post h => by rcases h with ⟨W, V, p, q, b, e, _⟩ | ⟨W, V, U, p, q, r, b, e, _⟩ <;> (rw [e]; rfl)) fun cdv A outer s H E hr => ⟨_, (pss_cons (ps_if (pt_cmpR op_eq (pe_callB c_len (by rfl) T.m_len (by decide +kernel) (pa_cons (pv 1) pa_nil)) pe_int (nomark _)) (pss_one (ps_ret (pe_call (ok__law_double T) (hr.mono (by decide)) (by rfl) T.g__law_double T.F__law_double.kp T.b__law_double .nil pass0 (pa_cons (pv 0) (pa_cons (pv 1) (pa_cons (pv 2) pa_nil)))))) pss_nil)
    (pss_cons (ps_set (i := 3) sc__law_due.nd rfl (Or.inr rfl) (pe_tindex (pv 1) (pa_cons (pe_callB (c_minI rfl (hu_of hr)) (by rfl) T.m_min (by decide +kernel) (pa_cons (pv 1) pa_nil)) pa_nil)))
    (pss_cons (ps_set (i := 4) sc__law_due.nd rfl (Or.inr rfl) (pe_op op_catA (pe_slice sl_tupA (pv 1) po_none (po_some (pv 3))) (pe_slice sl_tupA (pv 1) (po_some (pe_op op_add (pv 3) pe_int)) po_none)))
    (pss_cons (ps_set (i := 5) sc__law_due.nd rfl (Or.inr rfl) (pe_op op_catA (pe_slice sl_tupA (pv 0) po_none (po_some (pv 3))) (pe_slice sl_tupA (pv 0) (po_some (pe_op op_add (pv 3) pe_int)) po_none)))
    (pss_one (ps_ret (pe_callB (cr_sum rfl) (by rfl) T.m_sum (by decide +kernel) (pa_cons (pe_lc (own := [("_law_item", 6)]) (by rfl) sc__law_due.nd (pi_range1 (by rfl) T.m_range (pa_cons (pe_ix ix_tup (pv 1) (pv 3) (fun _ _ => rfl)) pa_nil)) (blkOk_by (own := [("_law_item", 6)]) (N := ["_law_weights_here", "_law_box_here", "_law_beat", "_law_at", "_law_rest", "_law_others", "_law_item"]) (sc := defScope s__law_due) (by decide +kernel)) (fun _ _ _ _ _ => (pg_name (i := 6) sc__law_due.nd rfl (Or.inl rfl))) (fun _ _ _ _ _ => pts_nil) (fun _ _ _ _ _ => (pe_call (ok__law_double T) (hr.mono (by decide)) (by rfl) T.g__law_double T.F__law_double.kp T.b__law_double .nil pass0 (pa_cons (pv 5) (pa_cons (pv 4) (pa_cons (pe_op op_sub (pv 2) (pe_op op_mul (pe_ix (ixK_tup (K := K) rfl) (pv 0) (pv 3) (fun _ _ => rfl)) (pv 6))) pa_nil)))))) pa_nil)))))))), fun R G cs post h => ?_⟩
  try simp only [cxK, cxK2]
  rcases h with ⟨W, V, p, q, b, e, ⟨hW, hV⟩, ⟨hp, hq⟩, fin⟩ | ⟨W, V, U, p, q, r, b, e, ⟨hW, hV, hU⟩, ⟨hp, hq, hr'⟩, hs, fin⟩
  · subst e
    refine sw_seq ?_
    show SW _ _ _ [some (.dat (.tuple [.int p, .int q])), some (.pt [.int (W : Int), .int (V : Int)]), some (cI b), Option.none, Option.none, Option.none, Option.none]
    repeat walk_at "ev"
    refine cw_len (.inr rfl) ?_
    repeat walk_at "ev"
    rw [if_pos (by rfl)]
    repeat walk_at "ev"
    exact ⟨by simp [ArgOk], W, V, p, q, b, rfl, ⟨hW, hV⟩, ⟨hp, hq⟩, nsD fin⟩
  · subst e
    refine sw_seq ?_
    show SW _ _ _ [some (.dat (.tuple [.int p, .int q, .int r])), some (.pt [.int (W : Int), .int (V : Int), .int (U : Int)]), some (cI b), Option.none, Option.none, Option.none, Option.none]
    repeat walk_at "ev"
    refine cw_len (.inr rfl) ?_
    repeat walk_at "ev"
    rw [if_neg (by simp)]
    repeat walk_at "ev"
    refine ew_idx (ew_pt rfl ⟨[(W : Int), V, U], rfl, ?_⟩)
    repeat walk_at "ev"
    refine cw_minI (ns := [(W : Int), V, U]) (.inr rfl) (by simp) ?_
    rcases least3 W V U hs with ⟨hi, hz⟩ | ⟨hi, hz⟩ | ⟨hi, hz⟩
    · rw [N3_0] at fin
      refine ⟨_, 0, rfl, hi, ?_⟩
      repeat walk_at "ev"
      refine rw_catT (by rw [sizeLine_eq]; decide : 2 ≤ sizeLine) ?_
      repeat walk_at "ev"
      refine rw_catT (by rw [sizeLine_eq]; decide : 2 ≤ sizeLine) ?_
      repeat walk_at "ev"
      refine ew_lc_map ?_
      repeat walk_at "ev"
      refine ⟨(W : Int), rfl, by omega, by omega, fun _ => true, mapI fun i => N2 V U q r (b - p * i), by rw [rngD_len, sizeLine_eq]; omega, ?_, ?_⟩
      · intro d hd
        obtain ⟨i, hi', rfl⟩ := rng_mem hd
        refine gw_name (by decide) ?_
        repeat walk_at "ev"
        refine ⟨rfl, fun _ => ?_⟩
        have c1 : ∀ x, CMul p x := fun x => .inl (by obtain ⟨z1, z2⟩ := hp; omega)
        repeat first | walk_at "ev" | exact c1 _
        exact ⟨by simp [ArgOk], V, U, q, r, _, rfl, ⟨hV, hU⟩, ⟨hq, hr'⟩, rfl⟩
      repeat walk_at "ev"
      refine cw_sum (rng_map _ _) ?_
      repeat walk_at "ev"
      rw [sum_range]
      exact fin
    · rw [N3_1] at fin
      refine ⟨_, 1, rfl, hi, ?_⟩
      repeat walk_at "ev"
      refine rw_catT (by rw [sizeLine_eq]; decide : 2 ≤ sizeLine) ?_
      repeat walk_at "ev"
      refine rw_catT (by rw [sizeLine_eq]; decide : 2 ≤ sizeLine) ?_
      repeat walk_at "ev"
      refine ew_lc_map ?_
      repeat walk_at "ev"
      refine ⟨(V : Int), rfl, by omega, by omega, fun _ => true, mapI fun i => N2 W U p r (b - q * i), by rw [rngD_len, sizeLine_eq]; omega, ?_, ?_⟩
      · intro d hd
        obtain ⟨i, hi', rfl⟩ := rng_mem hd
        refine gw_name (by decide) ?_
        repeat walk_at "ev"
        refine ⟨rfl, fun _ => ?_⟩
        have c1 : ∀ x, CMul q x := fun x => .inl (by obtain ⟨z1, z2⟩ := hq; omega)
        repeat first | walk_at "ev" | exact c1 _
        exact ⟨by simp [ArgOk], W, U, p, r, _, rfl, ⟨hW, hU⟩, ⟨hp, hr'⟩, rfl⟩
      repeat walk_at "ev"
      refine cw_sum (rng_map _ _) ?_
      repeat walk_at "ev"
      rw [sum_range]
      exact fin
    · rw [N3_2] at fin
      refine ⟨_, 2, rfl, hi, ?_⟩
      repeat walk_at "ev"
      refine rw_catT (by rw [sizeLine_eq]; decide : 2 ≤ sizeLine) ?_
      repeat walk_at "ev"
      refine rw_catT (by rw [sizeLine_eq]; decide : 2 ≤ sizeLine) ?_
      repeat walk_at "ev"
      refine ew_lc_map ?_
      repeat walk_at "ev"
      refine ⟨(U : Int), rfl, by omega, by omega, fun _ => true, mapI fun i => N2 W V p q (b - r * i), by rw [rngD_len, sizeLine_eq]; omega, ?_, ?_⟩
      · intro d hd
        obtain ⟨i, hi', rfl⟩ := rng_mem hd
        refine gw_name (by decide) ?_
        repeat walk_at "ev"
        refine ⟨rfl, fun _ => ?_⟩
        have c1 : ∀ x, CMul r x := fun x => .inl (by obtain ⟨z1, z2⟩ := hr'; omega)
        repeat first | walk_at "ev" | exact c1 _
        exact ⟨by simp [ArgOk], W, V, p, q, _, rfl, ⟨hW, hV⟩, ⟨hp, hq⟩, rfl⟩
      repeat walk_at "ev"
      refine cw_sum (rng_map _ _) ?_
      repeat walk_at "ev"
      rw [sum_range]
      exact fin
end

/-! plain numbers for the law -/
theorem N3_bound (W V U : Nat) (p q r b : Int) : 0 ≤ N3 W V U p q r b ∧ N3 W V U p q r b ≤ (W : Int) * ((V : Int) * U) := by
  unfold N3
  exact sum_le (by have := Int.mul_nonneg (Int.natCast_nonneg V) (Int.natCast_nonneg U); exact this) fun i _ => by
    have := sum_le (f := fun j => sumN U fun k => br (p * (i : Int) + q * (j : Int) + r * (k : Int) = b)) (c := (U : Int)) (by omega) (n := V) fun j _ => by
      have := sum_le (f := fun k => br (p * (i : Int) + q * (j : Int) + r * (k : Int) = b)) (c := 1) (by omega) (n := U) fun k _ => br_le _
      rw [Int.mul_one] at this
      exact this
    exact this
theorem log_ok {n : Int} (h0 : 0 ≤ n) (h : n ≤ 1000000000000000000000000000) : n.natAbs.log2 < 1920 := by
  have : n.natAbs ≤ 1000000000000000000000000000 := by omega
  by_cases z : n.natAbs = 0
  · rw [z]
    decide
  · refine (Nat.log2_lt z).mpr (Nat.lt_of_le_of_lt this ?_)
    decide +kernel
theorem log2_N2 {W V : Nat} (hW : Bx W) (hV : Bx V) (p q b : Int) : (N2 W V p q b).natAbs.log2 < 1920 := by
  have h := N2_bound W V p q b
  have : (W : Int) * V ≤ 1000000000 * 1000000000 := Int.mul_le_mul (by have := hW.2; omega) (by have := hV.2; omega) (by omega) (by omega)
  exact log_ok h.1 (by omega)
theorem log2_N3 {W V U : Nat} (hW : Bx W) (hV : Bx V) (hU : Bx U) (p q r b : Int) : (N3 W V U p q r b).natAbs.log2 < 1920 := by
  have h := N3_bound W V U p q r b
  have h1 : (V : Int) * U ≤ 1000000000 * 1000000000 := Int.mul_le_mul (by have := hV.2; omega) (by have := hU.2; omega) (by omega) (by omega)
  have h2 : (W : Int) * ((V : Int) * U) ≤ 1000000000 * (1000000000 * 1000000000) := Int.mul_le_mul (by have := hW.2; omega) h1 (Int.mul_nonneg (by omega) (by omega)) (by omega)
  exact log_ok h.1 (by omega)
theorem N3_turn (W V U : Nat) (p q r b : Int) : N3 U W V r p q b = N3 W V U p q r b := by
  rw [N3_0, N3_2]
theorem N3_turn2 (W V U : Nat) (p q r b : Int) : N3 V U W q r p b = N3 W V U p q r b := by
  rw [N3_2 V U W, N3_0]
/-- the law's own list of beats -/
theorem count_flat (b : Int) (f : Nat → List Int) : ∀ n : Nat, (((List.range n).flatMap f).count b : Int) = sumN n fun i => ((f i).count b : Int)
  | 0 => rfl
  | n + 1 => by
    rw [List.range_succ, List.flatMap_append, List.count_append, Int.natCast_add, count_flat b f n]
    show _ + _ = _ + _
    simp
theorem count_map (b : Int) (f : Nat → Int) : ∀ n : Nat, (((List.range n).map f).count b : Int) = sumN n fun i => br (f i = b)
  | 0 => rfl
  | n + 1 => by
    rw [List.range_succ, List.map_append, List.count_append, Int.natCast_add, count_map b f n]
    show _ + _ = _ + _
    congr 1
    unfold br
    by_cases h : f n = b
    · simp [h]
    · simp [h]
theorem pts2 (W V : Nat) : ptsL [W, V] = (List.range W).flatMap fun (i : Nat) => (List.range V).map fun (j : Nat) => [(i : Int), (j : Int)] := by
  unfold ptsL
  simp [List.foldl_cons, List.flatMap_map]
theorem pts3 (W V U : Nat) : ptsL [W, V, U] = (List.range W).flatMap fun (i : Nat) => (List.range V).flatMap fun (j : Nat) => (List.range U).map fun (k : Nat) => [(i : Int), (j : Int), (k : Int)] := by
  unfold ptsL
  simp [List.foldl_cons, List.flatMap_map, List.flatMap_assoc]
theorem beats2 (W V : Nat) (p q b : Int) : ((((ptsL [W, V]).map (dotL [p, q])).count b : Nat) : Int) = N2 W V p q b := by
  rw [pts2, List.map_flatMap, count_flat]
  unfold N2
  refine sum_congr fun i _ => ?_
  rw [List.map_map, count_map]
  refine sum_congr fun j _ => ?_
  rw [br_brc, br_brc]
  refine brc_congr ?_
  show p * (i : Int) + (q * (j : Int) + 0) = b ↔ _
  omega
theorem beats3 (W V U : Nat) (p q r b : Int) : ((((ptsL [W, V, U]).map (dotL [p, q, r])).count b : Nat) : Int) = N3 W V U p q r b := by
  rw [pts3, List.map_flatMap, count_flat]
  unfold N3
  refine sum_congr fun i _ => ?_
  rw [List.map_flatMap, count_flat]
  refine sum_congr fun j _ => ?_
  rw [List.map_map, count_map]
  refine sum_congr fun k _ => ?_
  rw [br_brc, br_brc]
  refine brc_congr ?_
  show p * (i : Int) + (q * (j : Int) + (r * (k : Int) + 0)) = b ↔ _
  omega
theorem fold_ne : ∀ (bs : List Nat) (acc : List (List Int)), acc ≠ [] → (∀ b ∈ bs, 1 ≤ b) → bs.foldl stp acc ≠ []
  | [], acc, h, _ => h
  | b :: bs, acc, h, hb => by
    refine fold_ne bs (stp acc b) (fun z => ?_) fun x hx => hb x (List.mem_cons_of_mem _ hx)
    have l := stp_len b acc
    rw [z] at l
    have h1 : 0 < acc.length := List.length_pos_iff.mpr h
    have h2 := hb b List.mem_cons_self
    have := Nat.mul_pos h1 h2
    simp at l
    omega
theorem pts_ne {bs : List Nat} (h : ∀ b ∈ bs, 1 ≤ b) : ptsL bs ≠ [] := fold_ne bs [[]] (by simp) h
theorem pts_len {bs : List Nat} (hl : bs.length ≤ 3) (h : ∀ b ∈ bs, b ≤ 8) : (ptsL bs).length ≤ 512 := by
  have := fold_len bs [[]] h
  have h8 := pow8 hl
  rw [List.length_singleton, Nat.one_mul] at this
  exact Nat.le_trans this h8
theorem last1 : N3 1000 1000000000 1000000000 1 0 0 999 = 1000000000000000000 := by
  rw [N3_0]
  have e : ∀ i : Nat, i < 1000 → N2 1000000000 1000000000 0 0 (999 - 1 * (i : Int)) = 1000000000000000000 * brc ((i : Int) = 999) := fun i _ => by
    rw [N2_flat]
    by_cases h : (i : Int) = 999
    · rw [if_pos (by omega), brc_true h]
      decide
    · rw [if_neg (by omega), brc_false h]
      decide
  rw [sum_congr e, sum_mul, sum_one (by omega) (by omega)]
  decide
theorem last2 : N2 1000000000 1000000000 2 3 1000000000 = 166666667 := by
  have := N2_line (W := 1000000000) (V := 1000000000) (p := 2) (q := 3) (b := 1000000000) (lo := 0) (hi := 166666666) (fun t => 500000000 - 3 * t) (fun t => 2 * t) (fun t u h _ => by omega) (fun i j h1 h2 => ⟨fun e => ⟨j / 2, by omega, by show i = 500000000 - 3 * (j / 2); omega, by show j = 2 * (j / 2); omega⟩, ?_⟩) fun t h1 h2 => by
      show (0 ≤ 500000000 - 3 * t ∧ 500000000 - 3 * t < ((1000000000 : Nat) : Int)) ∧ 0 ≤ 2 * t ∧ 2 * t < ((1000000000 : Nat) : Int)
      omega
  · rw [this]
    decide
  · rintro ⟨t, h, e1, e2⟩
    have e1 : i = 500000000 - 3 * t := e1
    have e2 : j = 2 * t := e2
    omega
theorem last3 : N2 3 2 0 0 0 = 6 := by decide
theorem eqv_pI : ∀ ns : List Int, PyData.eqvAll (pI ns) (pI ns) = true
  | [] => rfl
  | n :: ns => by
    show (PyData.eqv (.int n) (.int n) && PyData.eqvAll (pI ns) (pI ns)) = true
    rw [eqv_pI ns]
    simp [PyData.eqv]
def unI : List PyData → List Int
  | [] => []
  | .int n :: xs => n :: unI xs
  | _ :: xs => 0 :: unI xs
theorem unI_pI : ∀ ns : List Int, unI (pI ns) = ns
  | [] => rfl
  | n :: ns => by
    show n :: unI (pI ns) = n :: ns
    rw [unI_pI ns]
def dotP (ws : List Int) : PyData → PyData
  | .tuple xs => .int (dotL ws (unI xs))
  | _ => .none
theorem dotP_map (ws : List Int) (l : List (List Int)) : ((((l.map tup).filter fun _ => true).map (dotP ws))) = pI (l.map (dotL ws)) := by
  rw [List.filter_eq_self.mpr fun _ _ => rfl, List.map_map]
  unfold pI
  rw [List.map_map]
  refine List.map_congr_left fun a _ => ?_
  show PyData.int (dotL ws (unI (pI a))) = .int (dotL ws a)
  rw [unI_pI]
theorem mapI_pI (f : Int → Int) (ds : List PyData) (h : ∀ d ∈ ds, ∃ n : Int, d = .int n) : ∃ ns : List Int, ((ds.filter fun _ => true).map (mapI f)) = pI ns := by
  rw [List.filter_eq_self.mpr fun _ _ => rfl]
  induction ds with
  | nil => exact ⟨[], rfl⟩
  | cons d ds ih =>
    obtain ⟨n, rfl⟩ := h d List.mem_cons_self
    obtain ⟨ns, e⟩ := ih fun d hd => h d (List.mem_cons_of_mem _ hd)
    exact ⟨f n :: ns, by rw [List.map_cons, e]; rfl⟩

def ixP (xs : List PyData) : PyData → PyData
  | .int i => (atI xs i).getD .none
  | _ => .none
/-- two or three sizes, two or three weights -/
theorem two_of {ws : List Int} (h : (ws.length : Int) = 2) : ∃ x y, ws = [x, y] := by
  match ws, h with
  | [x, y], _ => exact ⟨x, y, rfl⟩
theorem three_of {ws : List Int} (h : (ws.length : Int) = 3) : ∃ x y z, ws = [x, y, z] := by
  match ws, h with
  | [x, y, z], _ => exact ⟨x, y, z, rfl⟩
theorem nat_of {x : Int} (h : 1 ≤ x ∧ x ≤ 1000000000) : ∃ W : Nat, x = (W : Int) ∧ Bx W := ⟨x.toNat, by omega, by constructor <;> omega⟩
/-- a state of the law between two turns: the script, the spring, the rest as it may be -/
def LSt (ns : List Int) (p : Addr) (δ : DSl) : Prop := ∃ m2 m3 m4 m5 m6 m7 m8 m9 m10 m11, δ = [some (.dat (.list (pI ns))), some (.raw (.ref p)), m2, m3, m4, m5, m6, m7, m8, m9, m10, m11, Option.none, Option.none]
section
variable {P : Program} {w : World} {K : PySem.W.Frag} {mg : Str → Option Value} {base : Heap} (T : Tp K mg)
theorem ok_law : FnOk P w K mg base CX0 5 T.a_law T.d_law ["_law_script"] (spD K lawF) := by
  refine fn_ok T.F_law sc_law (fun R cs post ⟨ns, _, e, _⟩ => by rw [e]; rfl) fun cdv A outer s H E hr => ⟨_, (pss_cons (ps_set (i := 1) sc_law.nd rfl (Or.inr rfl) (pe_call (ok__law_spring T) (hr.mono (by decide)) (by rfl) T.g__law_spring T.F__law_spring.kp T.b__law_spring .nil pass0 (pa_cons (pv 0) pa_nil)))
    (pss_cons (ps_for PassesOwn.never rfl (pi_range1 (by rfl) T.m_range (pa_cons pe_int pa_nil)) (pg_name (i := 2) sc_law.nd rfl (Or.inl rfl))
      (pss_cons (ps_set (i := 3) sc_law.nd rfl (Or.inl rfl) (pe_op op_add pe_int (pe_call (ok__law_dip T) (hr.mono (by decide)) (by rfl) T.g__law_dip T.F__law_dip.kp T.b__law_dip .nil pass0 (pa_cons (pv 1) (pa_cons pe_int pa_nil)))))
    (pss_cons (ps_asg (pe_tup (pa_cons (pe_call (ok__law_great T) (hr.mono (by decide)) (by rfl) T.g__law_great T.F__law_great.kp T.b__law_great .nil pass0 (pa_cons (pv 1) (pa_cons (pv 3) pa_nil))) (pa_cons (pe_call (ok__law_weights T) (hr.mono (by decide)) (by rfl) T.g__law_weights T.F__law_weights.kp T.b__law_weights .nil pass0 (pa_cons (pv 1) (pa_cons (pv 3) pa_nil))) pa_nil))) (pg_tup (by rfl) (pgs_cons (pg_name (i := 4) sc_law.nd rfl (Or.inr rfl)) (pgs_cons (pg_name (i := 5) sc_law.nd rfl (Or.inr rfl)) pgs_nil))))
    (pss_cons (ps_if (pt_cmpR op_eq (pv 3) pe_int (nomark _)) (pss_one (ps_set (i := 4) sc_law.nd rfl (Or.inr rfl) (pe_tupF (pa_cons (pe_ix ix_tup (pv 4) pe_int (fun _ _ => rfl)) (pa_cons (pe_op op_add pe_int (pe_call (ok__law_dip T) (hr.mono (by decide)) (by rfl) T.g__law_dip T.F__law_dip.kp T.b__law_dip .nil pass0 (pa_cons (pv 1) (pa_cons pe_int pa_nil)))) (pa_cons (pe_ix ix_tup (pv 4) pe_int (fun _ _ => rfl)) pa_nil)))))) pss_nil)
    (pss_cons (ps_setLc (i := 6) (own := [("_law_size", 12)]) (by rfl) sc_law.nd rfl rfl (sw_true rfl rfl rfl (by decide +kernel)) (pi_tup (pv 4)) (blkOk_by (own := [("_law_size", 12)]) (N := ["_law_script", "_law_spring_here", "_law_nth", "_law_dims", "_law_box_here", "_law_weights_here", "_law_point", "_law_beat", "_law_beats", "_law_some", "_law_sizes", "_law_others", "_law_size", "_law_at"]) (sc := defScope s_law) (by decide +kernel)) (fun _ _ _ _ _ => (pg_name (i := 12) sc_law.nd rfl (Or.inl rfl))) (fun _ _ _ _ _ => pts_nil) (fun _ _ _ _ _ => (pe_op op_sub (pe_call (ok__law_far T) (hr.mono (by decide)) (by rfl) T.g__law_far T.F__law_far.kp T.b__law_far .nil pass0 (pa_cons (pv 1) (pa_cons (pv 12) pa_nil))) pe_int)))
    (pss_cons (ps_set (i := 7) sc_law.nd rfl (Or.inl rfl) (pe_op op_add (pe_call (ok__law_dot T) (hr.mono (by decide)) (by rfl) T.g__law_dot T.F__law_dot.kp T.b__law_dot .nil pass0 (pa_cons (pv 5) (pa_cons (pv 6) pa_nil))) (pe_call (ok__law_pick T) (hr.mono (by decide)) (by rfl) T.g__law_pick T.F__law_pick.kp T.b__law_pick .nil pass0 (pa_cons (pv 1) (pa_cons (pe_lst (pa_cons pe_int (pa_cons pe_int (pa_cons pe_int (pa_cons pe_int (pa_cons (pe_un un_neg pe_int) (pa_cons (pe_op op_pow pe_int pe_int) pa_nil))))))) pa_nil)))))
    (pss_one (ps_if (pt_cmpR op_ne (pe_callB c_reprI (by rfl) T.m_repr (by decide +kernel) (pa_cons (pe_call (ok_count_at T) (hr.mono (by decide)) (by rfl) T.g_count_at T.F_count_at.kp T.b_count_at .nil pass0 (pa_cons (pv 4) (pa_cons (pv 5) (pa_cons (pv 7) pa_nil)))) pa_nil)) (pe_callB c_reprI (by rfl) T.m_repr (by decide +kernel) (pa_cons (pe_call (ok__law_due T) (hr.mono (by decide)) (by rfl) T.g__law_due T.F__law_due.kp T.b__law_due .nil pass0 (pa_cons (pv 5) (pa_cons (pv 4) (pa_cons (pv 7) pa_nil)))) pa_nil)) (nomark _)) (pss_one (ps_ret pe_bl)) pss_nil))))))))
    (pss_cons (ps_for PassesOwn.never rfl (pi_range1 (by rfl) T.m_range (pa_cons pe_int pa_nil)) (pg_name (i := 2) sc_law.nd rfl (Or.inl rfl))
      (pss_cons (ps_set (i := 3) sc_law.nd rfl (Or.inl rfl) (pe_op op_add pe_int (pe_call (ok__law_dip T) (hr.mono (by decide)) (by rfl) T.g__law_dip T.F__law_dip.kp T.b__law_dip .nil pass0 (pa_cons (pv 1) (pa_cons pe_int pa_nil)))))
    (pss_cons (ps_asg (pe_tup (pa_cons (pe_call (ok__law_box T) (hr.mono (by decide)) (by rfl) T.g__law_box T.F__law_box.kp T.b__law_box .nil pass0 (pa_cons (pv 1) (pa_cons (pv 3) pa_nil))) (pa_cons (pe_call (ok__law_weights T) (hr.mono (by decide)) (by rfl) T.g__law_weights T.F__law_weights.kp T.b__law_weights .nil pass0 (pa_cons (pv 1) (pa_cons (pv 3) pa_nil))) pa_nil))) (pg_tup (by rfl) (pgs_cons (pg_name (i := 4) sc_law.nd rfl (Or.inr rfl)) (pgs_cons (pg_name (i := 5) sc_law.nd rfl (Or.inr rfl)) pgs_nil))))
    (pss_cons (ps_set (i := 8) sc_law.nd rfl (Or.inr rfl) (pe_lc (own := [("_law_point", 6)]) (by rfl) sc_law.nd (pi_list (pe_call (ok__law_points T) (hr.mono (by decide)) (by rfl) T.g__law_points T.F__law_points.kp T.b__law_points .nil pass0 (pa_cons (pv 4) pa_nil))) (blkOk_by (own := [("_law_point", 6)]) (N := ["_law_script", "_law_spring_here", "_law_nth", "_law_dims", "_law_box_here", "_law_weights_here", "_law_point", "_law_beat", "_law_beats", "_law_some", "_law_sizes", "_law_others", "_law_size", "_law_at"]) (sc := defScope s_law) (by decide +kernel)) (fun _ _ _ _ _ => (pg_name (i := 6) sc_law.nd rfl (Or.inl rfl))) (fun _ _ _ _ _ => pts_nil) (fun _ _ _ _ _ => (pe_call (ok__law_dot T) (hr.mono (by decide)) (by rfl) T.g__law_dot T.F__law_dot.kp T.b__law_dot .nil pass0 (pa_cons (pv 5) (pa_cons (pv 6) pa_nil))))))
    (pss_cons (ps_set (i := 9) sc_law.nd rfl (Or.inl rfl) (pe_slice sl_list (pe_callB (c_sortS rfl) (by rfl) T.m_sorted (by decide +kernel) (pa_cons (pe_callTy (c_setL rfl) (by rfl) T.m_set (by decide +kernel) (pa_cons (pe_op op_cat (pv 8) (pe_lst (pa_cons (pe_op op_sub (pe_callB (c_minI rfl (hu_of hr)) (by rfl) T.m_min (by decide +kernel) (pa_cons (pv 8) pa_nil)) pe_int) (pa_cons (pe_op op_add (pe_callB (c_maxI rfl (hu_of hr)) (by rfl) T.m_max (by decide +kernel) (pa_cons (pv 8) pa_nil)) pe_int) (pa_cons pe_int pa_nil))))) pa_nil)) pa_nil)) po_none (po_some pe_int)))
    (pss_one (ps_if (pt_cmpR (op_neD hr.units) (pe_lc (own := [("_law_beat", 7)]) (by rfl) sc_law.nd (pi_list (pv 9)) (blkOk_by (own := [("_law_beat", 7)]) (N := ["_law_script", "_law_spring_here", "_law_nth", "_law_dims", "_law_box_here", "_law_weights_here", "_law_point", "_law_beat", "_law_beats", "_law_some", "_law_sizes", "_law_others", "_law_size", "_law_at"]) (sc := defScope s_law) (by decide +kernel)) (fun _ _ _ _ _ => (pg_name (i := 7) sc_law.nd rfl (Or.inl rfl))) (fun _ _ _ _ _ => pts_nil) (fun _ _ _ _ _ => (pe_call (ok_count_at T) (hr.mono (by decide)) (by rfl) T.g_count_at T.F_count_at.kp T.b_count_at .nil pass0 (pa_cons (pv 4) (pa_cons (pv 5) (pa_cons (pv 7) pa_nil)))))) (pe_lc (own := [("_law_beat", 7)]) (by rfl) sc_law.nd (pi_list (pv 9)) (blkOk_by (own := [("_law_beat", 7)]) (N := ["_law_script", "_law_spring_here", "_law_nth", "_law_dims", "_law_box_here", "_law_weights_here", "_law_point", "_law_beat", "_law_beats", "_law_some", "_law_sizes", "_law_others", "_law_size", "_law_at"]) (sc := defScope s_law) (by decide +kernel)) (fun _ _ _ _ _ => (pg_name (i := 7) sc_law.nd rfl (Or.inl rfl))) (fun _ _ _ _ _ => pts_nil) (fun _ _ _ _ _ => (pe_bmK (K := K) rfl PySem.F.plainAttrs_list PySem.F.slot_list_count PySem.F.type_list_count (mtK_lcount (K := K) rfl) (pv 8) (pa_cons (pv 7) pa_nil)))) (nomark _)) (pss_one (ps_ret pe_bl)) pss_nil)))))))
    (pss_cons (ps_asg (pe_tup (pa_cons (pe_tupF (pa_cons (pe_op op_pow pe_int pe_int) (pa_cons (pe_op op_pow pe_int pe_int) (pa_cons (pe_op op_add pe_int (pe_call (ok__law_dip T) (hr.mono (by decide)) (by rfl) T.g__law_dip T.F__law_dip.kp T.b__law_dip .nil pass0 (pa_cons (pv 1) (pa_cons (pe_call (ok__law_pick T) (hr.mono (by decide)) (by rfl) T.g__law_pick T.F__law_pick.kp T.b__law_pick .nil pass0 (pa_cons (pv 1) (pa_cons (pe_lst (pa_cons pe_int (pa_cons pe_int (pa_cons pe_int pa_nil)))) pa_nil))) pa_nil)))) pa_nil)))) (pa_cons (pe_call (ok__law_weights T) (hr.mono (by decide)) (by rfl) T.g__law_weights T.F__law_weights.kp T.b__law_weights .nil pass0 (pa_cons (pv 1) (pa_cons pe_int pa_nil))) pa_nil))) (pg_tup (by rfl) (pgs_cons (pg_name (i := 4) sc_law.nd rfl (Or.inr rfl)) (pgs_cons (pg_name (i := 5) sc_law.nd rfl (Or.inr rfl)) pgs_nil))))
    (pss_cons (ps_set (i := 7) sc_law.nd rfl (Or.inl rfl) (pe_call (ok__law_dot T) (hr.mono (by decide)) (by rfl) T.g__law_dot T.F__law_dot.kp T.b__law_dot .nil pass0 (pa_cons (pv 5) (pa_cons (pe_lc (own := [("_law_size", 12)]) (by rfl) sc_law.nd (pi_tup (pv 4)) (blkOk_by (own := [("_law_size", 12)]) (N := ["_law_script", "_law_spring_here", "_law_nth", "_law_dims", "_law_box_here", "_law_weights_here", "_law_point", "_law_beat", "_law_beats", "_law_some", "_law_sizes", "_law_others", "_law_size", "_law_at"]) (sc := defScope s_law) (by decide +kernel)) (fun _ _ _ _ _ => (pg_name (i := 12) sc_law.nd rfl (Or.inl rfl))) (fun _ _ _ _ _ => pts_nil) (fun _ _ _ _ _ => (pe_op op_sub (pe_call (ok__law_far T) (hr.mono (by decide)) (by rfl) T.g__law_far T.F__law_far.kp T.b__law_far .nil pass0 (pa_cons (pv 1) (pa_cons (pv 12) pa_nil))) pe_int))) pa_nil))))
    (pss_cons (ps_for PassesOwn.never rfl (pi_list (pe_lst (pa_cons (pe_tup (pa_cons pe_int (pa_cons pe_int (pa_cons pe_int pa_nil)))) (pa_cons (pe_tup (pa_cons pe_int (pa_cons pe_int (pa_cons pe_int pa_nil)))) (pa_cons (pe_tup (pa_cons pe_int (pa_cons pe_int (pa_cons pe_int pa_nil)))) pa_nil))))) (pg_name (i := 9) sc_law.nd rfl (Or.inl rfl))
      (pss_cons (ps_par (i := 10) (j := 11) rfl sc_law.nd rfl rfl (by decide) rfl rfl (pa_cons (pe_callTy c_tupF (by rfl) T.m_tuple (by decide +kernel) (pa_cons (pe_lc (own := [("_law_at", 13)]) (by rfl) sc_law.nd (pi_tup (pv 9)) (blkOk_by (own := [("_law_at", 13)]) (N := ["_law_script", "_law_spring_here", "_law_nth", "_law_dims", "_law_box_here", "_law_weights_here", "_law_point", "_law_beat", "_law_beats", "_law_some", "_law_sizes", "_law_others", "_law_size", "_law_at"]) (sc := defScope s_law) (by decide +kernel)) (fun _ _ _ _ _ => (pg_name (i := 13) sc_law.nd rfl (Or.inl rfl))) (fun _ _ _ _ _ => pts_nil) (fun _ _ _ _ _ => (pe_ix (ixK_tup (K := K) rfl) (pv 4) (pv 13) (fun _ _ => rfl)))) pa_nil)) (pa_cons (pe_callTy c_tup (by rfl) T.m_tuple (by decide +kernel) (pa_cons (pe_lc (own := [("_law_at", 13)]) (by rfl) sc_law.nd (pi_tup (pv 9)) (blkOk_by (own := [("_law_at", 13)]) (N := ["_law_script", "_law_spring_here", "_law_nth", "_law_dims", "_law_box_here", "_law_weights_here", "_law_point", "_law_beat", "_law_beats", "_law_some", "_law_sizes", "_law_others", "_law_size", "_law_at"]) (sc := defScope s_law) (by decide +kernel)) (fun _ _ _ _ _ => (pg_name (i := 13) sc_law.nd rfl (Or.inl rfl))) (fun _ _ _ _ _ => pts_nil) (fun _ _ _ _ _ => (pe_ix (ixK_tup (K := K) rfl) (pv 5) (pv 13) (fun _ _ => rfl)))) pa_nil)) pa_nil)) (by rfl))
    (pss_one (ps_if (pt_cmpR op_ne (pe_call (ok_count_at T) (hr.mono (by decide)) (by rfl) T.g_count_at T.F_count_at.kp T.b_count_at .nil pass0 (pa_cons (pv 10) (pa_cons (pv 11) (pa_cons (pv 7) pa_nil)))) (pe_call (ok__law_due T) (hr.mono (by decide)) (by rfl) T.g__law_due T.F__law_due.kp T.b__law_due .nil pass0 (pa_cons (pv 5) (pa_cons (pv 4) (pa_cons (pv 7) pa_nil)))) (nomark _)) (pss_one (ps_ret pe_bl)) pss_nil))))
    (pss_cons (ps_if (pt_cmpR op_ne (pe_call (ok_count_at T) (hr.mono (by decide)) (by rfl) T.g_count_at T.F_count_at.kp T.b_count_at .nil pass0 (pa_cons (pe_tupF (pa_cons pe_int (pa_cons (pe_op op_pow pe_int pe_int) (pa_cons (pe_op op_pow pe_int pe_int) pa_nil)))) (pa_cons (pe_tup (pa_cons pe_int (pa_cons pe_int (pa_cons pe_int pa_nil)))) (pa_cons pe_int pa_nil)))) (pe_op op_pow pe_int pe_int) (nomark _)) (pss_one (ps_ret pe_bl)) pss_nil)
    (pss_one (ps_ret (pe_and (pe_cmpR op_eq (pe_call (ok_count_at T) (hr.mono (by decide)) (by rfl) T.g_count_at T.F_count_at.kp T.b_count_at .nil pass0 (pa_cons (pe_tupF (pa_cons (pe_op op_pow pe_int pe_int) (pa_cons (pe_op op_pow pe_int pe_int) pa_nil))) (pa_cons (pe_tup (pa_cons pe_int (pa_cons pe_int pa_nil))) (pa_cons (pe_op op_pow pe_int pe_int) pa_nil)))) pe_int (nomark _)) (pe_one (pe_cmpR op_eq (pe_call (ok_count_at T) (hr.mono (by decide)) (by rfl) T.g_count_at T.F_count_at.kp T.b_count_at .nil pass0 (pa_cons (pe_tupF (pa_cons pe_int (pa_cons pe_int pa_nil))) (pa_cons (pe_tup (pa_cons pe_int (pa_cons pe_int pa_nil))) (pa_cons pe_int pa_nil)))) pe_int (nomark _))))))))))))), fun R G cs post ⟨ns, hR, e, q⟩ => ?_⟩
  subst e hR
  try simp only [cxK, cxK2]
  refine sw_weak (c := .dat (.bool true)) q ?_
  refine sw_seq (sw_asg (ew_call ?_))
  show AW _ _ [some (.dat (.list (pI ns))), Option.none, Option.none, Option.none, Option.none, Option.none, Option.none, Option.none, Option.none, Option.none, Option.none, Option.none, Option.none, Option.none] _
  repeat walk_at "ev"
  refine ⟨by simp [ArgOk], ns, rfl, fun g m hm => nsO ?_⟩
  refine sw_region (i := 1) rfl (by omega) rfl ?_ (fun _ z => z) (fun _ z => z) (fun _ z => z) (fun c z => by rw [show c = _ from z]; trivial) fun p G1 H1 => ?_
  · intro j c hj h
    match j, hj, h with
    | 0, _, h => cases h; trivial
    | 1, hj, _ => exact (hj rfl).elim
    | 2, _, h => cases h
    | 3, _, h => cases h
    | 4, _, h => cases h
    | 5, _, h => cases h
    | 6, _, h => cases h
    | 7, _, h => cases h
    | 8, _, h => cases h
    | 9, _, h => cases h
    | 10, _, h => cases h
    | 11, _, h => cases h
    | 12, _, h => cases h
    | 13, _, h => cases h
    | k + 14, _, h => cases h
  repeat walk_at "ev"
  refine sw_for [2] (iw_rng1 (aw_cons (ew_int (aw_nil ⟨_, rfl, by decide, by decide, fun _ δ => LSt ns p δ, ⟨_, _, _, _, _, _, _, _, _, _, rfl⟩, ?_, ?_⟩))))
  · rintro i d δ1 hd ⟨m2, m3, m4, m5, m6, m7, m8, m9, m10, m11, rfl⟩
    refine gw_name (by decide) ?_
    refine sw_seq (sw_asg (ew_op (ew_int (ew_call (aw_cons (ew_raw rfl (aw_cons (ew_int (aw_nil ?_)))))))))
    refine ⟨by simp [ArgOk], p, 2, rfl, rfl, by decide, fun k hk => rw_I0 (nsD (sw_seq ?_))⟩
    obtain rfl | rfl : k = 0 ∨ k = 1 := by omega
    · -- 2 sizes
      refine sw_tup2 rfl (aw_cons (ew_call (aw_cons (ew_raw rfl (aw_cons (ew_var rfl (aw_nil ?_))))))) 
      refine ⟨by simp [ArgOk], p, 2, rfl, rfl, by decide, fun bs hl hbs => ?_⟩
      refine aw_cons (ew_call (aw_cons (ew_raw rfl (aw_cons (ew_var rfl (aw_nil ?_))))))
      refine ⟨by simp [ArgOk], p, 2, rfl, rfl, by decide, fun ws hlw hws => aw_nil ⟨_, _, rfl, trivial, trivial, ?_⟩⟩
      obtain ⟨x, y, rfl⟩ := two_of hl
      obtain ⟨u, v, rfl⟩ := two_of hlw
      obtain ⟨W, rfl, hW⟩ := nat_of (hbs x (by simp))
      obtain ⟨V, rfl, hV⟩ := nat_of (hbs y (by simp))
      have su := hws u (by simp)
      have sv := hws v (by simp)
      refine sw_seq (sw_if (tw_test (ew_op (ew_var rfl (ew_int (rw_eqI (exB ?_)))))))
      rw [if_neg (by decide)]
      refine sw_next ?_
      refine sw_seq (sw_asg (ew_frz (ew_lc (iw_tup (ew_ptd rfl ⟨_, rfl, fun i acc => ∃ ps : List Int, acc = pI ps ∧ ps.length = i, ⟨[], rfl, rfl⟩, (by rw [sizeLine_eq]; decide : 2 < sizeLine), ?_, ?_⟩)))))
      · rintro i d acc hd _ ⟨ps, rfl, hpl⟩
        obtain ⟨n, hn, rfl⟩ : ∃ n : Nat, 1 ≤ n ∧ d = .int (n : Int) := by
          have hd := List.mem_of_getElem? hd
          simp only [List.mem_cons, List.not_mem_nil, or_false, pI, List.map_cons, List.map_nil] at hd
          rcases hd with h | h
          · exact ⟨W, hW.1, h⟩
          · exact ⟨V, hV.1, h⟩
        refine gw_name (by decide) (tw_yes ?_)
        rw [if_pos rfl]
        refine ew_op (ew_call (aw_cons (ew_raw rfl (aw_cons (ew_var rfl (aw_nil ?_))))))
        refine ⟨by simp [ArgOk], p, _, rfl, rfl, by omega, fun k3 hk3 => ew_int (rw_I0 (exD ⟨ps ++ [k3 - 1], by simp, by rw [List.length_append, hpl]; rfl⟩))⟩
      rintro acc ⟨ps, rfl, hpl⟩
      refine exO (nsD ?_)
      refine sw_seq (sw_asg (ew_op (ew_call (aw_cons (ew_var rfl (aw_cons (ew_var rfl (aw_nil ?_))))))))
      refine ⟨by simp [ArgOk], [u, v], ps, _, rfl, .inl rfl, Nat.le_of_ble_eq_true rfl, hws, ?_⟩
      refine ew_call (aw_cons (ew_raw rfl (aw_cons (ew_lst ?_))))
      repeat first | walk_at "ev" | exact cpow _ (by decide) _ (by decide)
      refine ⟨by simp [ArgOk], p, _, rfl, rfl, ⟨by simp, by simp⟩, fun d hd => ?_⟩
      obtain ⟨a, rfl⟩ : ∃ a : Int, d = .int a := by
        simp only [List.mem_cons, List.not_mem_nil, or_false] at hd
        rcases hd with h | h | h | h | h | h <;> exact ⟨_, h⟩
      refine rw_I0 (nsD ?_)
      generalize dotL [u, v] ps + a = bt
      refine sw_if (tw_test (ew_op (ew_cb (aw_cons (ew_call (aw_cons (ew_pt rfl (aw_cons (ew_var rfl (aw_cons (ew_var rfl (aw_nil ?_))))))))))))
      refine ⟨by simp [ArgOk], .inl ⟨W, V, u, v, bt, rfl, ⟨hW, hV⟩, ⟨su, sv⟩, ?_⟩⟩
      refine aw_nil (cw_reprI (log2_N2 hW hV u v bt) (ew_cb (aw_cons (ew_call (aw_cons (ew_var rfl (aw_cons (ew_pt rfl (aw_cons (ew_var rfl (aw_nil ?_)))))))))))
      refine ⟨by simp [ArgOk], .inl ⟨W, V, u, v, bt, rfl, ⟨hW, hV⟩, ⟨su, sv⟩, ?_⟩⟩
      refine aw_nil (cw_reprI (log2_N2 hW hV u v bt) (rw_neS (exB ?_)))
      rw [if_neg (by simp)]
      exact sw_next ⟨_, _, _, _, _, _, _, _, _, _, rfl⟩
    · -- 3 sizes
      refine sw_tup2 rfl (aw_cons (ew_call (aw_cons (ew_raw rfl (aw_cons (ew_var rfl (aw_nil ?_))))))) 
      refine ⟨by simp [ArgOk], p, 3, rfl, rfl, by decide, fun bs hl hbs => ?_⟩
      refine aw_cons (ew_call (aw_cons (ew_raw rfl (aw_cons (ew_var rfl (aw_nil ?_))))))
      refine ⟨by simp [ArgOk], p, 3, rfl, rfl, by decide, fun ws hlw hws => aw_nil ⟨_, _, rfl, trivial, trivial, ?_⟩⟩
      obtain ⟨x, y0, t, rfl⟩ := three_of hl
      obtain ⟨u, v, z, rfl⟩ := three_of hlw
      obtain ⟨W, rfl, hW⟩ := nat_of (hbs x (by simp))
      obtain ⟨U, rfl, hU⟩ := nat_of (hbs t (by simp))
      have su := hws u (by simp)
      have sv := hws v (by simp)
      have sz := hws z (by simp)
      refine sw_seq (sw_if (tw_test (ew_op (ew_var rfl (ew_int (rw_eqI (exB ?_)))))))
      rw [if_pos (by decide)]
      refine sw_asg ?_
      refine ew_tupF (aw_cons (ew_op (ew_ptd rfl (ew_int (rw_ixT rfl ?_)))))
      refine aw_cons (ew_op (ew_int (ew_call (aw_cons (ew_raw rfl (aw_cons (ew_int (aw_nil ?_))))))))
      refine ⟨by simp [ArgOk], p, 12, rfl, rfl, by decide, fun k2 hk2 => rw_I0 ?_⟩
      refine aw_cons (ew_op (ew_ptd rfl (ew_int (rw_ixT rfl (aw_nil (ex3 (nsP ?_)))))))
      obtain ⟨V, eV, hV⟩ := nat_of (x := 1 + k2) (by omega)
      rw [eV]
      have hV12 : V ≤ 1000 := by omega
      refine sw_seq (sw_asg (ew_frz (ew_lc (iw_tup (ew_ptd rfl ⟨_, rfl, fun i acc => ∃ ps : List Int, acc = pI ps ∧ ps.length = i, ⟨[], rfl, rfl⟩, (by rw [sizeLine_eq]; decide : 3 < sizeLine), ?_, ?_⟩)))))
      · rintro i d acc hd _ ⟨ps, rfl, hpl⟩
        obtain ⟨n, hn, rfl⟩ : ∃ n : Nat, 1 ≤ n ∧ d = .int (n : Int) := by
          have hd := List.mem_of_getElem? hd
          simp only [List.mem_cons, List.not_mem_nil, or_false, pI, List.map_cons, List.map_nil] at hd
          rcases hd with h | h | h
          · exact ⟨W, hW.1, h⟩
          · exact ⟨V, hV.1, h⟩
          · exact ⟨U, hU.1, h⟩
        refine gw_name (by decide) (tw_yes ?_)
        rw [if_pos rfl]
        refine ew_op (ew_call (aw_cons (ew_raw rfl (aw_cons (ew_var rfl (aw_nil ?_))))))
        refine ⟨by simp [ArgOk], p, _, rfl, rfl, by omega, fun k3 hk3 => ew_int (rw_I0 (exD ⟨ps ++ [k3 - 1], by simp, by rw [List.length_append, hpl]; rfl⟩))⟩
      rintro acc ⟨ps, rfl, hpl⟩
      refine exO (nsD ?_)
      refine sw_seq (sw_asg (ew_op (ew_call (aw_cons (ew_var rfl (aw_cons (ew_var rfl (aw_nil ?_))))))))
      refine ⟨by simp [ArgOk], [u, v, z], ps, _, rfl, .inl rfl, Nat.le_of_ble_eq_true rfl, hws, ?_⟩
      refine ew_call (aw_cons (ew_raw rfl (aw_cons (ew_lst ?_))))
      repeat first | walk_at "ev" | exact cpow _ (by decide) _ (by decide)
      refine ⟨by simp [ArgOk], p, _, rfl, rfl, ⟨by simp, by simp⟩, fun d hd => ?_⟩
      obtain ⟨a, rfl⟩ : ∃ a : Int, d = .int a := by
        simp only [List.mem_cons, List.not_mem_nil, or_false] at hd
        rcases hd with h | h | h | h | h | h <;> exact ⟨_, h⟩
      refine rw_I0 (nsD ?_)
      generalize dotL [u, v, z] ps + a = bt
      refine sw_if (tw_test (ew_op (ew_cb (aw_cons (ew_call (aw_cons (ew_pt rfl (aw_cons (ew_var rfl (aw_cons (ew_var rfl (aw_nil ?_))))))))))))
      refine ⟨by simp [ArgOk], .inr ⟨W, V, U, u, v, z, bt, rfl, ⟨hW, hV, hU⟩, ⟨su, sv, sz⟩, .inr (.inl hV12), ?_⟩⟩
      refine aw_nil (cw_reprI (log2_N3 hW hV hU u v z bt) (ew_cb (aw_cons (ew_call (aw_cons (ew_var rfl (aw_cons (ew_pt rfl (aw_cons (ew_var rfl (aw_nil ?_)))))))))))
      refine ⟨by simp [ArgOk], .inr ⟨W, V, U, u, v, z, bt, rfl, ⟨hW, hV, hU⟩, ⟨su, sv, sz⟩, .inr (.inl hV12), ?_⟩⟩
      refine aw_nil (cw_reprI (log2_N3 hW hV hU u v z bt) (rw_neS (exB ?_)))
      rw [if_neg (by simp)]
      exact sw_next ⟨_, _, _, _, _, _, _, _, _, _, rfl⟩
  · rintro δ1 ⟨m2, m3, m4, m5, m6, m7, m8, m9, m10, m11, rfl⟩
    refine sw_seq (sw_for [2] (iw_rng1 (aw_cons (ew_int (aw_nil ⟨_, rfl, by decide, by decide, fun _ δ => LSt ns p δ, ⟨_, _, _, _, _, _, _, _, _, _, rfl⟩, ?_, ?_⟩)))))
    · rintro i d δ1 hd ⟨m2, m3, m4, m5, m6, m7, m8, m9, m10, m11, rfl⟩
      refine gw_name (by decide) ?_
      refine sw_seq (sw_asg (ew_op (ew_int (ew_call (aw_cons (ew_raw rfl (aw_cons (ew_int (aw_nil ?_)))))))))
      refine ⟨by simp [ArgOk], p, 2, rfl, rfl, by decide, fun k hk => rw_I0 (nsD (sw_seq ?_))⟩
      obtain rfl | rfl : k = 0 ∨ k = 1 := by omega
      · -- 2 sizes
        refine sw_tup2 rfl (aw_cons (ew_call (aw_cons (ew_raw rfl (aw_cons (ew_var rfl (aw_nil ?_)))))))
        refine ⟨by simp [ArgOk], p, 2, rfl, rfl, by decide, fun bs hl hbs => ?_⟩
        refine aw_cons (ew_call (aw_cons (ew_raw rfl (aw_cons (ew_var rfl (aw_nil ?_))))))
        refine ⟨by simp [ArgOk], p, 2, rfl, rfl, by decide, fun ws hlw hws => aw_nil ⟨_, _, rfl, trivial, trivial, ?_⟩⟩
        have hbs' : ∀ x ∈ bs, 1 ≤ x ∧ x ≤ 8 := fun x hx => by
          have h := hbs x hx
          rw [if_pos rfl] at h
          omega
        obtain ⟨x, y, rfl⟩ := two_of hl
        obtain ⟨u, v, rfl⟩ := two_of hlw
        have lx := hbs' x (by simp)
        have ly := hbs' y (by simp)
        obtain ⟨W, rfl, hW⟩ := nat_of (x := x) (by omega)
        obtain ⟨V, rfl, hV⟩ := nat_of (x := y) (by omega)
        have su := hws u (by simp)
        have sv := hws v (by simp)
        have le8 : ∀ b ∈ [W, V], b ≤ 8 := fun b hb => by
          simp only [List.mem_cons, List.not_mem_nil, or_false] at hb
          omega
        have ge1 : ∀ b ∈ [W, V], 1 ≤ b := fun b hb => by
          simp only [List.mem_cons, List.not_mem_nil, or_false] at hb
          omega
        have plen := pts_len (bs := [W, V]) (Nat.le_of_ble_eq_true rfl) le8
        refine sw_seq (sw_asg (ew_lc_map (iw_list (ew_call (aw_cons (ew_ptd rfl (aw_nil ?_)))))))
        refine ⟨by simp [ArgOk], [W, V], rfl, ⟨Nat.le_of_ble_eq_true rfl, le8⟩, exL ⟨fun _ => true, dotP [u, v], by rw [List.length_map, sizeLine_eq]; omega, ?_, ?_⟩⟩
        · intro d hd
          obtain ⟨xs, _, rfl⟩ := List.mem_map.mp hd
          refine gw_name (by decide) (tw_yes ⟨rfl, fun _ => ?_⟩)
          refine ew_call (aw_cons (ew_var rfl (aw_cons (ew_var rfl (aw_nil ?_)))))
          refine ⟨by simp [ArgOk], [u, v], xs, _, rfl, .inr rfl, Nat.le_of_ble_eq_true rfl, hws, ?_⟩
          show Cl.dat (.int (dotL [u, v] xs)) = .dat (.int (dotL [u, v] (unI (pI xs))))
          rw [unI_pI]
        rw [dotP_map]
        have cnt := beats2 W V u v
        have bne : (ptsL [W, V]).map (dotL [u, v]) ≠ [] := fun e => pts_ne ge1 (List.map_eq_nil_iff.mp e)
        have blen : ((ptsL [W, V]).map (dotL [u, v])).length ≤ 512 := by
          rw [List.length_map]
          exact plen
        generalize (ptsL [W, V]).map (dotL [u, v]) = bts at cnt bne blen ⊢
        refine nsO ?_
        refine sw_seq (sw_asg (ew_frz (ew_sl (ew_sortedSet (ew_op (ew_see rfl (ew_lst_own (aw_cons (ew_op (ew_cb (aw_cons (ew_see rfl (aw_nil (cw_minI (ns := bts) (.inl rfl) bne (ew_int (rw_I0 ?_))))))))))))))))
        refine aw_cons (ew_op (ew_cb (aw_cons (ew_see rfl (aw_nil (cw_maxI (ns := bts) (.inl rfl) bne (ew_int (rw_I0 ?_))))))))
        refine aw_cons (ew_int (aw_nil (ex3 ?_)))
        refine rw_cat rfl rfl (by rw [List.length_map, sizeLine_eq]; simp; omega) ?_
        refine ⟨bts ++ [lmin bts - 1, lmax bts + 1, 0], by simp [IsLs], by simp; omega, fun ms hms => ow_no (ow_part (ew_int (exI (slw_list rfl (exO (nsD ?_))))))⟩
        have hsm : ∀ d ∈ L3.cutD (pI ms) Option.none (some 40), ∃ n : Int, d = .int n := fun d hd => cut_ints ms _ _ hd
        have hsl : (L3.cutD (pI ms) Option.none (some 40)).length < sizeLine := by
          have : (L3.cutD (pI ms) Option.none (some 40)).length ≤ (pI ms).length := by
            unfold L3.cutD
            rw [List.length_take, List.length_drop]
            omega
          rw [List.length_map] at this
          rw [sizeLine_eq]
          simp at hms
          omega
        generalize L3.cutD (pI ms) Option.none (some 40) = sm at hsm hsl ⊢
        obtain ⟨ks, ek⟩ := mapI_pI (fun bt : Int => N2 W V u v bt) sm hsm
        refine sw_if (tw_test (ew_op (ew_lc_map (iw_list (ew_var rfl (exL ⟨fun _ => true, mapI (fun bt : Int => N2 W V u v bt), hsl, ?_, ?_⟩))))))
        · intro d hd
          obtain ⟨bt, rfl⟩ := hsm d hd
          refine gw_name (by decide) (tw_yes ⟨rfl, fun _ => ?_⟩)
          refine ew_call (aw_cons (ew_pt rfl (aw_cons (ew_var rfl (aw_cons (ew_var rfl (aw_nil ?_)))))))
          exact ⟨by simp [ArgOk], .inl ⟨W, V, u, v, bt, rfl, ⟨hW, hV⟩, ⟨su, sv⟩, rfl⟩⟩
        refine ew_lc_map (iw_list (ew_var rfl (exL ⟨fun _ => true, mapI (fun bt : Int => N2 W V u v bt), hsl, ?_, ?_⟩)))
        · intro d hd
          obtain ⟨bt, rfl⟩ := hsm d hd
          refine gw_name (by decide) (tw_yes ⟨rfl, fun _ => ?_⟩)
          refine ew_bmL (ew_see rfl ⟨⟨_, rfl⟩, aw_cons (ew_var rfl (aw_nil (mw_count rfl ?_)))⟩)
          rw [cnt]
          rfl
        rw [ek]
        refine rw_neL (xs := pI ks) (ys := pI ks) rfl rfl (shaped_pI ks) (shaped_pI ks) (exB ?_)
        rw [if_neg (by simp [PyData.eqv, eqv_pI])]
        exact sw_next ⟨_, _, _, _, _, _, _, _, _, _, rfl⟩
      · -- 3 sizes
        refine sw_tup2 rfl (aw_cons (ew_call (aw_cons (ew_raw rfl (aw_cons (ew_var rfl (aw_nil ?_)))))))
        refine ⟨by simp [ArgOk], p, 3, rfl, rfl, by decide, fun bs hl hbs => ?_⟩
        refine aw_cons (ew_call (aw_cons (ew_raw rfl (aw_cons (ew_var rfl (aw_nil ?_))))))
        refine ⟨by simp [ArgOk], p, 3, rfl, rfl, by decide, fun ws hlw hws => aw_nil ⟨_, _, rfl, trivial, trivial, ?_⟩⟩
        have hbs' : ∀ x ∈ bs, 1 ≤ x ∧ x ≤ 8 := fun x hx => by
          have h := hbs x hx
          rw [if_neg (by decide)] at h
          omega
        obtain ⟨x, y, t, rfl⟩ := three_of hl
        obtain ⟨u, v, z, rfl⟩ := three_of hlw
        have lx := hbs' x (by simp)
        have ly := hbs' y (by simp)
        have lt := hbs' t (by simp)
        obtain ⟨W, rfl, hW⟩ := nat_of (x := x) (by omega)
        obtain ⟨V, rfl, hV⟩ := nat_of (x := y) (by omega)
        obtain ⟨U, rfl, hU⟩ := nat_of (x := t) (by omega)
        have su := hws u (by simp)
        have sv := hws v (by simp)
        have sz := hws z (by simp)
        have le8 : ∀ b ∈ [W, V, U], b ≤ 8 := fun b hb => by
          simp only [List.mem_cons, List.not_mem_nil, or_false] at hb
          omega
        have ge1 : ∀ b ∈ [W, V, U], 1 ≤ b := fun b hb => by
          simp only [List.mem_cons, List.not_mem_nil, or_false] at hb
          omega
        have plen := pts_len (bs := [W, V, U]) (Nat.le_of_ble_eq_true rfl) le8
        refine sw_seq (sw_asg (ew_lc_map (iw_list (ew_call (aw_cons (ew_ptd rfl (aw_nil ?_)))))))
        refine ⟨by simp [ArgOk], [W, V, U], rfl, ⟨Nat.le_of_ble_eq_true rfl, le8⟩, exL ⟨fun _ => true, dotP [u, v, z], by rw [List.length_map, sizeLine_eq]; omega, ?_, ?_⟩⟩
        · intro d hd
          obtain ⟨xs, _, rfl⟩ := List.mem_map.mp hd
          refine gw_name (by decide) (tw_yes ⟨rfl, fun _ => ?_⟩)
          refine ew_call (aw_cons (ew_var rfl (aw_cons (ew_var rfl (aw_nil ?_)))))
          refine ⟨by simp [ArgOk], [u, v, z], xs, _, rfl, .inr rfl, Nat.le_of_ble_eq_true rfl, hws, ?_⟩
          show Cl.dat (.int (dotL [u, v, z] xs)) = .dat (.int (dotL [u, v, z] (unI (pI xs))))
          rw [unI_pI]
        rw [dotP_map]
        have cnt := beats3 W V U u v z
        have bne : (ptsL [W, V, U]).map (dotL [u, v, z]) ≠ [] := fun e => pts_ne ge1 (List.map_eq_nil_iff.mp e)
        have blen : ((ptsL [W, V, U]).map (dotL [u, v, z])).length ≤ 512 := by
          rw [List.length_map]
          exact plen
        generalize (ptsL [W, V, U]).map (dotL [u, v, z]) = bts at cnt bne blen ⊢
        refine nsO ?_
        refine sw_seq (sw_asg (ew_frz (ew_sl (ew_sortedSet (ew_op (ew_see rfl (ew_lst_own (aw_cons (ew_op (ew_cb (aw_cons (ew_see rfl (aw_nil (cw_minI (ns := bts) (.inl rfl) bne (ew_int (rw_I0 ?_))))))))))))))))
        refine aw_cons (ew_op (ew_cb (aw_cons (ew_see rfl (aw_nil (cw_maxI (ns := bts) (.inl rfl) bne (ew_int (rw_I0 ?_))))))))
        refine aw_cons (ew_int (aw_nil (ex3 ?_)))
        refine rw_cat rfl rfl (by rw [List.length_map, sizeLine_eq]; simp; omega) ?_
        refine ⟨bts ++ [lmin bts - 1, lmax bts + 1, 0], by simp [IsLs], by simp; omega, fun ms hms => ow_no (ow_part (ew_int (exI (slw_list rfl (exO (nsD ?_))))))⟩
        have hsm : ∀ d ∈ L3.cutD (pI ms) Option.none (some 40), ∃ n : Int, d = .int n := fun d hd => cut_ints ms _ _ hd
        have hsl : (L3.cutD (pI ms) Option.none (some 40)).length < sizeLine := by
          have : (L3.cutD (pI ms) Option.none (some 40)).length ≤ (pI ms).length := by
            unfold L3.cutD
            rw [List.length_take, List.length_drop]
            omega
          rw [List.length_map] at this
          rw [sizeLine_eq]
          simp at hms
          omega
        generalize L3.cutD (pI ms) Option.none (some 40) = sm at hsm hsl ⊢
        obtain ⟨ks, ek⟩ := mapI_pI (fun bt : Int => N3 W V U u v z bt) sm hsm
        refine sw_if (tw_test (ew_op (ew_lc_map (iw_list (ew_var rfl (exL ⟨fun _ => true, mapI (fun bt : Int => N3 W V U u v z bt), hsl, ?_, ?_⟩))))))
        · intro d hd
          obtain ⟨bt, rfl⟩ := hsm d hd
          refine gw_name (by decide) (tw_yes ⟨rfl, fun _ => ?_⟩)
          refine ew_call (aw_cons (ew_pt rfl (aw_cons (ew_var rfl (aw_cons (ew_var rfl (aw_nil ?_)))))))
          exact ⟨by simp [ArgOk], .inr ⟨W, V, U, u, v, z, bt, rfl, ⟨hW, hV, hU⟩, ⟨su, sv, sz⟩, .inl (by omega), rfl⟩⟩
        refine ew_lc_map (iw_list (ew_var rfl (exL ⟨fun _ => true, mapI (fun bt : Int => N3 W V U u v z bt), hsl, ?_, ?_⟩)))
        · intro d hd
          obtain ⟨bt, rfl⟩ := hsm d hd
          refine gw_name (by decide) (tw_yes ⟨rfl, fun _ => ?_⟩)
          refine ew_bmL (ew_see rfl ⟨⟨_, rfl⟩, aw_cons (ew_var rfl (aw_nil (mw_count rfl ?_)))⟩)
          rw [cnt]
          rfl
        rw [ek]
        refine rw_neL (xs := pI ks) (ys := pI ks) rfl rfl (shaped_pI ks) (shaped_pI ks) (exB ?_)
        rw [if_neg (by simp [PyData.eqv, eqv_pI])]
        exact sw_next ⟨_, _, _, _, _, _, _, _, _, _, rfl⟩
    · rintro δ1 ⟨m2, m3, m4, m5, m6, m7, m8, m9, m10, m11, rfl⟩
      have p9 : (10 : Int) ^ (9 : Int).toNat = ((1000000000 : Nat) : Int) := by decide
      obtain ⟨M, eM⟩ : ∃ M : Nat, M = 1000000000 := ⟨_, rfl⟩
      rw [← eM] at p9
      have hM : Bx M := ⟨by omega, by omega⟩
      refine sw_seq (sw_tup2 rfl (aw_cons (ew_tupF ?_)))
      repeat first | walk_at "ev" | exact cpow _ (by decide) _ (by decide)
      refine ew_lst ?_
      repeat walk_at "ev"
      refine ⟨by simp [ArgOk], p, _, rfl, rfl, ⟨by simp, by simp⟩, fun d hd => ?_⟩
      obtain ⟨c, hc, rfl⟩ : ∃ c : Int, (1 ≤ c ∧ c ≤ 1000) ∧ d = .int c := by
        simp only [List.mem_cons, List.not_mem_nil, or_false] at hd
        rcases hd with h | h | h <;> exact ⟨_, by decide, h⟩
      repeat walk_at "ev"
      refine ⟨by simp [ArgOk], p, c, rfl, rfl, by omega, fun k hk => ?_⟩
      repeat walk_at "ev"
      obtain ⟨U, eU, hU⟩ := nat_of (x := 1 + k) (by omega)
      have hU1 : U ≤ 1000 := by omega
      rw [p9, eU]
      refine ⟨by simp [ArgOk], p, 3, rfl, rfl, by decide, fun ws hlw hws => ?_⟩
      obtain ⟨u, v, z, rfl⟩ := three_of hlw
      have su := hws u (by simp)
      have sv := hws v (by simp)
      have sz := hws z (by simp)
      refine aw_nil ⟨_, _, rfl, trivial, trivial, ?_⟩
      refine sw_seq (sw_asg (ew_call (aw_cons (ew_var rfl (aw_cons (ew_frz (ew_lc (iw_tup (ew_ptd rfl ⟨_, rfl, fun i acc => ∃ ps : List Int, acc = pI ps ∧ ps.length = i, ⟨[], rfl, rfl⟩, (by rw [sizeLine_eq]; decide : 3 < sizeLine), ?_, ?_⟩)))))))))
      · rintro i d acc hd _ ⟨ps, rfl, hpl⟩
        obtain ⟨n, hn, rfl⟩ : ∃ n : Nat, 1 ≤ n ∧ d = .int (n : Int) := by
          have hd := List.mem_of_getElem? hd
          simp only [List.mem_cons, List.not_mem_nil, or_false] at hd
          rcases hd with h | h | h
          · exact ⟨M, hM.1, h⟩
          · exact ⟨M, hM.1, h⟩
          · exact ⟨U, hU.1, h⟩
        refine gw_name (by decide) (tw_yes ?_)
        rw [if_pos rfl]
        refine ew_op (ew_call (aw_cons (ew_raw rfl (aw_cons (ew_var rfl (aw_nil ?_))))))
        refine ⟨by simp [ArgOk], p, _, rfl, rfl, by omega, fun k3 hk3 => ew_int (rw_I0 (exD ⟨ps ++ [k3 - 1], by simp, by rw [List.length_append, hpl]; rfl⟩))⟩
      rintro acc ⟨ps, rfl, hpl⟩
      refine exO (aw_nil ⟨by simp [ArgOk], [u, v, z], ps, _, rfl, .inl rfl, Nat.le_of_ble_eq_true rfl, hws, nsD ?_⟩)
      generalize dotL [u, v, z] ps = bt
      refine sw_seq (sw_for [9] (iw_list (ew_lst ?_)))
      repeat walk_at "ev"
      refine ⟨fun _ δ => ∃ m2 m3 m6 m8 m9 m10 m11, δ = [some (.dat (.list (pI ns))), some (.raw (.ref p)), m2, m3, some (.pt [.int (M : Int), .int (M : Int), .int (U : Int)]), some (.dat (.tuple [.int u, .int v, .int z])), m6, some (cI bt), m8, m9, m10, m11, Option.none, Option.none], ⟨_, _, _, _, _, _, _, rfl⟩, ?_, ?_⟩
      · rintro i d δ1 hd ⟨m2, m3, m6, m8, m9, m10, m11, rfl⟩
        match i, hd with
        | 0, hd =>
          cases hd
          refine gw_name (by decide) ?_
          have mem : ∀ d ∈ [PyData.int 0, .int 1, .int 2], d = .int 0 ∨ d = .int 1 ∨ d = .int 2 := fun d hd => by
            simp only [List.mem_cons, List.not_mem_nil, or_false] at hd
            rcases hd with h | h | h <;> simp [h]
          refine sw_seq (sw_par2 (aw_cons (ew_cb (aw_cons (ew_lc_map (iw_tup (ew_var rfl (exT ⟨fun _ => true, ixP [.int (M : Int), .int (M : Int), .int (U : Int)], (by rw [sizeLine_eq]; decide : 3 < sizeLine), ?_, ?_⟩))))))))
          · intro d hd
            refine gw_name (by decide) (tw_yes ⟨rfl, fun _ => ?_⟩)
            rcases mem d hd with h | h | h
            · subst h
              exact ew_op (ew_ptd rfl (ew_var rfl (rw_ixT rfl rfl)))
            · subst h
              exact ew_op (ew_ptd rfl (ew_var rfl (rw_ixT rfl rfl)))
            · subst h
              exact ew_op (ew_ptd rfl (ew_var rfl (rw_ixT rfl rfl)))
          refine aw_nil (cw_tupF (xs := [.int (M : Int), .int (M : Int), .int (U : Int)]) rfl ?_)
          refine aw_cons (ew_cb (aw_cons (ew_lc_map (iw_tup (ew_var rfl (exT ⟨fun _ => true, ixP [.int u, .int v, .int z], (by rw [sizeLine_eq]; decide : 3 < sizeLine), ?_, ?_⟩))))))
          · intro d hd
            refine gw_name (by decide) (tw_yes ⟨rfl, fun _ => ?_⟩)
            rcases mem d hd with h | h | h
            · subst h
              exact ew_op (ew_var rfl (ew_var rfl (rw_ixT rfl rfl)))
            · subst h
              exact ew_op (ew_var rfl (ew_var rfl (rw_ixT rfl rfl)))
            · subst h
              exact ew_op (ew_var rfl (ew_var rfl (rw_ixT rfl rfl)))
          refine aw_nil (cw_tup (xs := [.int u, .int v, .int z]) rfl (aw_nil ⟨_, _, rfl, trivial, trivial, ?_⟩))
          refine sw_if (tw_test (ew_op (ew_call (aw_cons (ew_pt rfl (aw_cons (ew_var rfl (aw_cons (ew_var rfl (aw_nil ?_))))))))))
          refine ⟨by simp [ArgOk], .inr ⟨M, M, U, u, v, z, bt, rfl, ⟨hM, hM, hU⟩, ⟨su, sv, sz⟩, .inr (.inr hU1), ?_⟩⟩
          refine ew_call (aw_cons (ew_var rfl (aw_cons (ew_pt rfl (aw_cons (ew_var rfl (aw_nil ?_)))))))
          refine ⟨by simp [ArgOk], .inr ⟨M, M, U, u, v, z, bt, rfl, ⟨hM, hM, hU⟩, ⟨su, sv, sz⟩, .inr (.inr hU1), ?_⟩⟩
          refine rw_neI (exB ?_)
          rw [if_neg (by simp)]
          exact sw_next ⟨_, _, _, _, _, _, _, rfl⟩
        | 1, hd =>
          cases hd
          refine gw_name (by decide) ?_
          have mem : ∀ d ∈ [PyData.int 2, .int 0, .int 1], d = .int 0 ∨ d = .int 1 ∨ d = .int 2 := fun d hd => by
            simp only [List.mem_cons, List.not_mem_nil, or_false] at hd
            rcases hd with h | h | h <;> simp [h]
          refine sw_seq (sw_par2 (aw_cons (ew_cb (aw_cons (ew_lc_map (iw_tup (ew_var rfl (exT ⟨fun _ => true, ixP [.int (M : Int), .int (M : Int), .int (U : Int)], (by rw [sizeLine_eq]; decide : 3 < sizeLine), ?_, ?_⟩))))))))
          · intro d hd
            refine gw_name (by decide) (tw_yes ⟨rfl, fun _ => ?_⟩)
            rcases mem d hd with h | h | h
            · subst h
              exact ew_op (ew_ptd rfl (ew_var rfl (rw_ixT rfl rfl)))
            · subst h
              exact ew_op (ew_ptd rfl (ew_var rfl (rw_ixT rfl rfl)))
            · subst h
              exact ew_op (ew_ptd rfl (ew_var rfl (rw_ixT rfl rfl)))
          refine aw_nil (cw_tupF (xs := [.int (U : Int), .int (M : Int), .int (M : Int)]) rfl ?_)
          refine aw_cons (ew_cb (aw_cons (ew_lc_map (iw_tup (ew_var rfl (exT ⟨fun _ => true, ixP [.int u, .int v, .int z], (by rw [sizeLine_eq]; decide : 3 < sizeLine), ?_, ?_⟩))))))
          · intro d hd
            refine gw_name (by decide) (tw_yes ⟨rfl, fun _ => ?_⟩)
            rcases mem d hd with h | h | h
            · subst h
              exact ew_op (ew_var rfl (ew_var rfl (rw_ixT rfl rfl)))
            · subst h
              exact ew_op (ew_var rfl (ew_var rfl (rw_ixT rfl rfl)))
            · subst h
              exact ew_op (ew_var rfl (ew_var rfl (rw_ixT rfl rfl)))
          refine aw_nil (cw_tup (xs := [.int z, .int u, .int v]) rfl (aw_nil ⟨_, _, rfl, trivial, trivial, ?_⟩))
          refine sw_if (tw_test (ew_op (ew_call (aw_cons (ew_pt rfl (aw_cons (ew_var rfl (aw_cons (ew_var rfl (aw_nil ?_))))))))))
          refine ⟨by simp [ArgOk], .inr ⟨U, M, M, z, u, v, bt, rfl, ⟨hU, hM, hM⟩, ⟨sz, su, sv⟩, .inl hU1, ?_⟩⟩
          refine ew_call (aw_cons (ew_var rfl (aw_cons (ew_pt rfl (aw_cons (ew_var rfl (aw_nil ?_)))))))
          refine ⟨by simp [ArgOk], .inr ⟨M, M, U, u, v, z, bt, rfl, ⟨hM, hM, hU⟩, ⟨su, sv, sz⟩, .inr (.inr hU1), ?_⟩⟩
          refine rw_neI (exB ?_)
          rw [if_neg (by simp [N3_turn M M U u v z bt])]
          exact sw_next ⟨_, _, _, _, _, _, _, rfl⟩
        | 2, hd =>
          cases hd
          refine gw_name (by decide) ?_
          have mem : ∀ d ∈ [PyData.int 1, .int 2, .int 0], d = .int 0 ∨ d = .int 1 ∨ d = .int 2 := fun d hd => by
            simp only [List.mem_cons, List.not_mem_nil, or_false] at hd
            rcases hd with h | h | h <;> simp [h]
          refine sw_seq (sw_par2 (aw_cons (ew_cb (aw_cons (ew_lc_map (iw_tup (ew_var rfl (exT ⟨fun _ => true, ixP [.int (M : Int), .int (M : Int), .int (U : Int)], (by rw [sizeLine_eq]; decide : 3 < sizeLine), ?_, ?_⟩))))))))
          · intro d hd
            refine gw_name (by decide) (tw_yes ⟨rfl, fun _ => ?_⟩)
            rcases mem d hd with h | h | h
            · subst h
              exact ew_op (ew_ptd rfl (ew_var rfl (rw_ixT rfl rfl)))
            · subst h
              exact ew_op (ew_ptd rfl (ew_var rfl (rw_ixT rfl rfl)))
            · subst h
              exact ew_op (ew_ptd rfl (ew_var rfl (rw_ixT rfl rfl)))
          refine aw_nil (cw_tupF (xs := [.int (M : Int), .int (U : Int), .int (M : Int)]) rfl ?_)
          refine aw_cons (ew_cb (aw_cons (ew_lc_map (iw_tup (ew_var rfl (exT ⟨fun _ => true, ixP [.int u, .int v, .int z], (by rw [sizeLine_eq]; decide : 3 < sizeLine), ?_, ?_⟩))))))
          · intro d hd
            refine gw_name (by decide) (tw_yes ⟨rfl, fun _ => ?_⟩)
            rcases mem d hd with h | h | h
            · subst h
              exact ew_op (ew_var rfl (ew_var rfl (rw_ixT rfl rfl)))
            · subst h
              exact ew_op (ew_var rfl (ew_var rfl (rw_ixT rfl rfl)))
            · subst h
              exact ew_op (ew_var rfl (ew_var rfl (rw_ixT rfl rfl)))
          refine aw_nil (cw_tup (xs := [.int v, .int z, .int u]) rfl (aw_nil ⟨_, _, rfl, trivial, trivial, ?_⟩))
          refine sw_if (tw_test (ew_op (ew_call (aw_cons (ew_pt rfl (aw_cons (ew_var rfl (aw_cons (ew_var rfl (aw_nil ?_))))))))))
          refine ⟨by simp [ArgOk], .inr ⟨M, U, M, v, z, u, bt, rfl, ⟨hM, hU, hM⟩, ⟨sv, sz, su⟩, .inr (.inl hU1), ?_⟩⟩
          refine ew_call (aw_cons (ew_var rfl (aw_cons (ew_pt rfl (aw_cons (ew_var rfl (aw_nil ?_)))))))
          refine ⟨by simp [ArgOk], .inr ⟨M, M, U, u, v, z, bt, rfl, ⟨hM, hM, hU⟩, ⟨su, sv, sz⟩, .inr (.inr hU1), ?_⟩⟩
          refine rw_neI (exB ?_)
          rw [if_neg (by simp [N3_turn2 M M U u v z bt])]
          exact sw_next ⟨_, _, _, _, _, _, _, rfl⟩
        | k + 3, hd => cases hd
      · rintro δ1 ⟨m2, m3, m6, m8, m9, m10, m11, rfl⟩
        have b1000 : Bx 1000 := by constructor <;> decide
        refine sw_seq (sw_if (tw_test (ew_op (ew_call (aw_cons (ew_tupF ?_))))))
        repeat first | walk_at "ev" | exact cpow _ (by decide) _ (by decide)
        rw [p9]
        refine ⟨by simp [ArgOk], .inr ⟨1000, M, M, 1, 0, 0, 999, rfl, ⟨b1000, hM, hM⟩, ⟨by constructor <;> decide, by constructor <;> decide, by constructor <;> decide⟩, .inl (by decide), ?_⟩⟩
        have l1 : N3 1000 M M 1 0 0 999 = 10 ^ (18 : Int).toNat := by
          rw [eM, last1]
          decide
        repeat first | walk_at "ev" | exact cpow _ (by decide) _ (by decide)
        rw [if_neg (by simp [l1])]
        refine sw_next ?_
        refine sw_ret ?_
        have l2 : N2 M M 2 3 M = 166666667 := by
          rw [eM]
          exact last2
        repeat first | walk_at "ev" | exact cpow _ (by decide) _ (by decide)
        rw [p9]
        refine ⟨by simp [ArgOk], .inl ⟨M, M, 2, 3, M, rfl, ⟨hM, hM⟩, ⟨by constructor <;> decide, by constructor <;> decide⟩, ?_⟩⟩
        repeat walk_at "ev"
        rw [if_pos (by simp [l2])]
        repeat walk_at "ev"
        refine ⟨by simp [ArgOk], .inl ⟨3, 2, 0, 0, 0, rfl, ⟨by constructor <;> decide, by constructor <;> decide⟩, ⟨by constructor <;> decide, by constructor <;> decide⟩, ?_⟩⟩
        repeat walk_at "ev"
        rw [last3]
        rfl
end

theorem all_mk {l : PySem.W.OpenLaw} {w : World} {K : PySem.W.Frag} {h : Heap} {mg : Str → Option Value} {fa : Addr} (X : K.In h) (G : h.Ns mainGlobals mg) (hfa : mg "law" = some (.ref fa))
    {od0 an0 : Option Addr} {sl0 : Array (Option Value)} {oc0 kV0 dc0 pm0 cd0 ct0 : Value} {f0 : Addr}
    (x0 : PySem.W.nsIn K mainGlobals "share" = some (some (.ref f0))) (l0 : K.lookup f0 = some ⟨oc0, od0, .func (PySem.W.fnOf "share" "share" (defArgs s_share) (defBody s_share) (defScope s_share) .none kV0 dc0 pm0 an0 cd0 ct0), sl0⟩) (c0 : PySem.W.codeIn K cd0 "share" = true) (k0 : PySem.W.keepIn K (.ref f0) = true)
    {od1 an1 : Option Addr} {sl1 : Array (Option Value)} {oc1 kV1 dc1 pm1 cd1 ct1 : Value} {f1 : Addr}
    (x1 : PySem.W.nsIn K mainGlobals "steps_in" = some (some (.ref f1))) (l1 : K.lookup f1 = some ⟨oc1, od1, .func (PySem.W.fnOf "steps_in" "steps_in" (defArgs s_steps_in) (defBody s_steps_in) (defScope s_steps_in) .none kV1 dc1 pm1 an1 cd1 ct1), sl1⟩) (c1 : PySem.W.codeIn K cd1 "steps_in" = true) (k1 : PySem.W.keepIn K (.ref f1) = true)
    {od2 an2 : Option Addr} {sl2 : Array (Option Value)} {oc2 kV2 dc2 pm2 cd2 ct2 : Value} {f2 : Addr}
    (x2 : PySem.W.nsIn K mainGlobals "stretch" = some (some (.ref f2))) (l2 : K.lookup f2 = some ⟨oc2, od2, .func (PySem.W.fnOf "stretch" "stretch" (defArgs s_stretch) (defBody s_stretch) (defScope s_stretch) .none kV2 dc2 pm2 an2 cd2 ct2), sl2⟩) (c2 : PySem.W.codeIn K cd2 "stretch" = true) (k2 : PySem.W.keepIn K (.ref f2) = true)
    {od3 an3 : Option Addr} {sl3 : Array (Option Value)} {oc3 kV3 dc3 pm3 cd3 ct3 : Value} {f3 : Addr}
    (x3 : PySem.W.nsIn K mainGlobals "product_of" = some (some (.ref f3))) (l3 : K.lookup f3 = some ⟨oc3, od3, .func (PySem.W.fnOf "product_of" "product_of" (defArgs s_product_of) (defBody s_product_of) (defScope s_product_of) .none kV3 dc3 pm3 an3 cd3 ct3), sl3⟩) (c3 : PySem.W.codeIn K cd3 "product_of" = true) (k3 : PySem.W.keepIn K (.ref f3) = true)
    {od4 an4 : Option Addr} {sl4 : Array (Option Value)} {oc4 kV4 dc4 pm4 cd4 ct4 : Value} {f4 : Addr}
    (x4 : PySem.W.nsIn K mainGlobals "count_on_plane" = some (some (.ref f4))) (l4 : K.lookup f4 = some ⟨oc4, od4, .func (PySem.W.fnOf "count_on_plane" "count_on_plane" (defArgs s_count_on_plane) (defBody s_count_on_plane) (defScope s_count_on_plane) .none kV4 dc4 pm4 an4 cd4 ct4), sl4⟩) (c4 : PySem.W.codeIn K cd4 "count_on_plane" = true) (k4 : PySem.W.keepIn K (.ref f4) = true)
    {od5 an5 : Option Addr} {sl5 : Array (Option Value)} {oc5 kV5 dc5 pm5 cd5 ct5 : Value} {f5 : Addr}
    (x5 : PySem.W.nsIn K mainGlobals "count_at" = some (some (.ref f5))) (l5 : K.lookup f5 = some ⟨oc5, od5, .func (PySem.W.fnOf "count_at" "count_at" (defArgs s_count_at) (defBody s_count_at) (defScope s_count_at) .none kV5 dc5 pm5 an5 cd5 ct5), sl5⟩) (c5 : PySem.W.codeIn K cd5 "count_at" = true) (k5 : PySem.W.keepIn K (.ref f5) = true)
    {od6 an6 : Option Addr} {sl6 : Array (Option Value)} {oc6 kV6 dc6 pm6 cd6 ct6 : Value} {f6 : Addr}
    (x6 : PySem.W.nsIn K mainGlobals "_law_spring" = some (some (.ref f6))) (l6 : K.lookup f6 = some ⟨oc6, od6, .func (PySem.W.fnOf "_law_spring" "_law_spring" (defArgs s__law_spring) (defBody s__law_spring) (defScope s__law_spring) .none kV6 dc6 pm6 an6 cd6 ct6), sl6⟩) (c6 : PySem.W.codeIn K cd6 "_law_spring" = true) (k6 : PySem.W.keepIn K (.ref f6) = true)
    {od7 an7 : Option Addr} {sl7 : Array (Option Value)} {oc7 kV7 dc7 pm7 cd7 ct7 : Value} {f7 : Addr}
    (x7 : PySem.W.nsIn K mainGlobals "_law_dip" = some (some (.ref f7))) (l7 : K.lookup f7 = some ⟨oc7, od7, .func (PySem.W.fnOf "_law_dip" "_law_dip" (defArgs s__law_dip) (defBody s__law_dip) (defScope s__law_dip) .none kV7 dc7 pm7 an7 cd7 ct7), sl7⟩) (c7 : PySem.W.codeIn K cd7 "_law_dip" = true) (k7 : PySem.W.keepIn K (.ref f7) = true)
    {od8 an8 : Option Addr} {sl8 : Array (Option Value)} {oc8 kV8 dc8 pm8 cd8 ct8 : Value} {f8 : Addr}
    (x8 : PySem.W.nsIn K mainGlobals "_law_pick" = some (some (.ref f8))) (l8 : K.lookup f8 = some ⟨oc8, od8, .func (PySem.W.fnOf "_law_pick" "_law_pick" (defArgs s__law_pick) (defBody s__law_pick) (defScope s__law_pick) .none kV8 dc8 pm8 an8 cd8 ct8), sl8⟩) (c8 : PySem.W.codeIn K cd8 "_law_pick" = true) (k8 : PySem.W.keepIn K (.ref f8) = true)
    {od9 an9 : Option Addr} {sl9 : Array (Option Value)} {oc9 kV9 dc9 pm9 cd9 ct9 : Value} {f9 : Addr}
    (x9 : PySem.W.nsIn K mainGlobals "_law_far" = some (some (.ref f9))) (l9 : K.lookup f9 = some ⟨oc9, od9, .func (PySem.W.fnOf "_law_far" "_law_far" (defArgs s__law_far) (defBody s__law_far) (defScope s__law_far) .none kV9 dc9 pm9 an9 cd9 ct9), sl9⟩) (c9 : PySem.W.codeIn K cd9 "_law_far" = true) (k9 : PySem.W.keepIn K (.ref f9) = true)
    {od10 an10 : Option Addr} {sl10 : Array (Option Value)} {oc10 kV10 dc10 pm10 cd10 ct10 : Value} {f10 : Addr}
    (x10 : PySem.W.nsIn K mainGlobals "_law_gcd" = some (some (.ref f10))) (l10 : K.lookup f10 = some ⟨oc10, od10, .func (PySem.W.fnOf "_law_gcd" "_law_gcd" (defArgs s__law_gcd) (defBody s__law_gcd) (defScope s__law_gcd) .none kV10 dc10 pm10 an10 cd10 ct10), sl10⟩) (c10 : PySem.W.codeIn K cd10 "_law_gcd" = true) (k10 : PySem.W.keepIn K (.ref f10) = true)
    {od11 an11 : Option Addr} {sl11 : Array (Option Value)} {oc11 kV11 dc11 pm11 cd11 ct11 : Value} {f11 : Addr}
    (x11 : PySem.W.nsIn K mainGlobals "_law_weights" = some (some (.ref f11))) (l11 : K.lookup f11 = some ⟨oc11, od11, .func (PySem.W.fnOf "_law_weights" "_law_weights" (defArgs s__law_weights) (defBody s__law_weights) (defScope s__law_weights) .none kV11 dc11 pm11 an11 cd11 ct11), sl11⟩) (c11 : PySem.W.codeIn K cd11 "_law_weights" = true) (k11 : PySem.W.keepIn K (.ref f11) = true)
    {od12 an12 : Option Addr} {sl12 : Array (Option Value)} {oc12 kV12 dc12 pm12 cd12 ct12 : Value} {f12 : Addr}
    (x12 : PySem.W.nsIn K mainGlobals "_law_box" = some (some (.ref f12))) (l12 : K.lookup f12 = some ⟨oc12, od12, .func (PySem.W.fnOf "_law_box" "_law_box" (defArgs s__law_box) (defBody s__law_box) (defScope s__law_box) .none kV12 dc12 pm12 an12 cd12 ct12), sl12⟩) (c12 : PySem.W.codeIn K cd12 "_law_box" = true) (k12 : PySem.W.keepIn K (.ref f12) = true)
    {od13 an13 : Option Addr} {sl13 : Array (Option Value)} {oc13 kV13 dc13 pm13 cd13 ct13 : Value} {f13 : Addr}
    (x13 : PySem.W.nsIn K mainGlobals "_law_great" = some (some (.ref f13))) (l13 : K.lookup f13 = some ⟨oc13, od13, .func (PySem.W.fnOf "_law_great" "_law_great" (defArgs s__law_great) (defBody s__law_great) (defScope s__law_great) .none kV13 dc13 pm13 an13 cd13 ct13), sl13⟩) (c13 : PySem.W.codeIn K cd13 "_law_great" = true) (k13 : PySem.W.keepIn K (.ref f13) = true)
    {od14 an14 : Option Addr} {sl14 : Array (Option Value)} {oc14 kV14 dc14 pm14 cd14 ct14 : Value} {f14 : Addr}
    (x14 : PySem.W.nsIn K mainGlobals "_law_dot" = some (some (.ref f14))) (l14 : K.lookup f14 = some ⟨oc14, od14, .func (PySem.W.fnOf "_law_dot" "_law_dot" (defArgs s__law_dot) (defBody s__law_dot) (defScope s__law_dot) .none kV14 dc14 pm14 an14 cd14 ct14), sl14⟩) (c14 : PySem.W.codeIn K cd14 "_law_dot" = true) (k14 : PySem.W.keepIn K (.ref f14) = true)
    {od15 an15 : Option Addr} {sl15 : Array (Option Value)} {oc15 kV15 dc15 pm15 cd15 ct15 : Value} {f15 : Addr}
    (x15 : PySem.W.nsIn K mainGlobals "_law_points" = some (some (.ref f15))) (l15 : K.lookup f15 = some ⟨oc15, od15, .func (PySem.W.fnOf "_law_points" "_law_points" (defArgs s__law_points) (defBody s__law_points) (defScope s__law_points) .none kV15 dc15 pm15 an15 cd15 ct15), sl15⟩) (c15 : PySem.W.codeIn K cd15 "_law_points" = true) (k15 : PySem.W.keepIn K (.ref f15) = true)
    {od16 an16 : Option Addr} {sl16 : Array (Option Value)} {oc16 kV16 dc16 pm16 cd16 ct16 : Value} {f16 : Addr}
    (x16 : PySem.W.nsIn K mainGlobals "_law_between" = some (some (.ref f16))) (l16 : K.lookup f16 = some ⟨oc16, od16, .func (PySem.W.fnOf "_law_between" "_law_between" (defArgs s__law_between) (defBody s__law_between) (defScope s__law_between) .none kV16 dc16 pm16 an16 cd16 ct16), sl16⟩) (c16 : PySem.W.codeIn K cd16 "_law_between" = true) (k16 : PySem.W.keepIn K (.ref f16) = true)
    {od17 an17 : Option Addr} {sl17 : Array (Option Value)} {oc17 kV17 dc17 pm17 cd17 ct17 : Value} {f17 : Addr}
    (x17 : PySem.W.nsIn K mainGlobals "_law_single" = some (some (.ref f17))) (l17 : K.lookup f17 = some ⟨oc17, od17, .func (PySem.W.fnOf "_law_single" "_law_single" (defArgs s__law_single) (defBody s__law_single) (defScope s__law_single) .none kV17 dc17 pm17 an17 cd17 ct17), sl17⟩) (c17 : PySem.W.codeIn K cd17 "_law_single" = true) (k17 : PySem.W.keepIn K (.ref f17) = true)
    {od18 an18 : Option Addr} {sl18 : Array (Option Value)} {oc18 kV18 dc18 pm18 cd18 ct18 : Value} {f18 : Addr}
    (x18 : PySem.W.nsIn K mainGlobals "_law_double" = some (some (.ref f18))) (l18 : K.lookup f18 = some ⟨oc18, od18, .func (PySem.W.fnOf "_law_double" "_law_double" (defArgs s__law_double) (defBody s__law_double) (defScope s__law_double) .none kV18 dc18 pm18 an18 cd18 ct18), sl18⟩) (c18 : PySem.W.codeIn K cd18 "_law_double" = true) (k18 : PySem.W.keepIn K (.ref f18) = true)
    {od19 an19 : Option Addr} {sl19 : Array (Option Value)} {oc19 kV19 dc19 pm19 cd19 ct19 : Value} {f19 : Addr}
    (x19 : PySem.W.nsIn K mainGlobals "_law_due" = some (some (.ref f19))) (l19 : K.lookup f19 = some ⟨oc19, od19, .func (PySem.W.fnOf "_law_due" "_law_due" (defArgs s__law_due) (defBody s__law_due) (defScope s__law_due) .none kV19 dc19 pm19 an19 cd19 ct19), sl19⟩) (c19 : PySem.W.codeIn K cd19 "_law_due" = true) (k19 : PySem.W.keepIn K (.ref f19) = true)
    {od20 an20 : Option Addr} {sl20 : Array (Option Value)} {oc20 kV20 dc20 pm20 cd20 ct20 : Value} {f20 : Addr}
    (x20 : PySem.W.nsIn K mainGlobals "law" = some (some (.ref f20))) (l20 : K.lookup f20 = some ⟨oc20, od20, .func (PySem.W.fnOf "law" "law" (defArgs s_law) (defBody s_law) (defScope s_law) .none kV20 dc20 pm20 an20 cd20 ct20), sl20⟩) (c20 : PySem.W.codeIn K cd20 "law" = true) (k20 : PySem.W.keepIn K (.ref f20) = true)
    (z_abs : PySem.W.nsIn K mainGlobals "abs" = some Option.none)
    (z_all : PySem.W.nsIn K mainGlobals "all" = some Option.none)
    (z_enumerate : PySem.W.nsIn K mainGlobals "enumerate" = some Option.none)
    (z_int : PySem.W.nsIn K mainGlobals "int" = some Option.none)
    (z_len : PySem.W.nsIn K mainGlobals "len" = some Option.none)
    (z_list : PySem.W.nsIn K mainGlobals "list" = some Option.none)
    (z_max : PySem.W.nsIn K mainGlobals "max" = some Option.none)
    (z_min : PySem.W.nsIn K mainGlobals "min" = some Option.none)
    (z_range : PySem.W.nsIn K mainGlobals "range" = some Option.none)
    (z_repr : PySem.W.nsIn K mainGlobals "repr" = some Option.none)
    (z_set : PySem.W.nsIn K mainGlobals "set" = some Option.none)
    (z_sorted : PySem.W.nsIn K mainGlobals "sorted" = some Option.none)
    (z_sum : PySem.W.nsIn K mainGlobals "sum" = some Option.none)
    (z_tuple : PySem.W.nsIn K mainGlobals "tuple" = some Option.none)
    (z_zip : PySem.W.nsIn K mainGlobals "zip" = some Option.none) :
    ∃ fd : FuncData, (∀ (s : Shared) (v : Value), BindsTo s fd ⟨[v], []⟩ [("_law_script", v)]) ∧ ∀ base : Heap, K.In base → base.Ns mainGlobals mg → FnOk l.prog w K mg base CX0 5 fa fd ["_law_script"] (spD K lawF) := by
  have e := hfa.symm.trans (PySem.W.mg_of X G x20)
  cases e
  have F0 := fun_mk (st := s_share) l0 c0 k0
  have b0 := F0.binds (ps := ["one", "other"]) fun _ _ _ _ _ _ us hl => match us, hl with | [_, _], _ => rfl
  have F1 := fun_mk (st := s_steps_in) l1 c1 k1
  have b1 := F1.binds (ps := ["item", "step", "size"]) fun _ _ _ _ _ _ us hl => match us, hl with | [_, _, _], _ => rfl
  have F2 := fun_mk (st := s_stretch) l2 c2 k2
  have b2 := F2.binds (ps := ["box", "point", "vector"]) fun _ _ _ _ _ _ us hl => match us, hl with | [_, _, _], _ => rfl
  have F3 := fun_mk (st := s_product_of) l3 c3 k3
  have b3 := F3.binds (ps := ["numbers"]) fun _ _ _ _ _ _ us hl => match us, hl with | [_], _ => rfl
  have F4 := fun_mk (st := s_count_on_plane) l4 c4 k4
  have b4 := F4.binds (ps := ["box", "weights", "beat"]) fun _ _ _ _ _ _ us hl => match us, hl with | [_, _, _], _ => rfl
  have F5 := fun_mk (st := s_count_at) l5 c5 k5
  have b5 := F5.binds (ps := ["box", "weights", "beat"]) fun _ _ _ _ _ _ us hl => match us, hl with | [_, _, _], _ => rfl
  have F6 := fun_mk (st := s__law_spring) l6 c6 k6
  have b6 := F6.binds (ps := ["_law_script"]) fun _ _ _ _ _ _ us hl => match us, hl with | [_], _ => rfl
  have F7 := fun_mk (st := s__law_dip) l7 c7 k7
  have b7 := F7.binds (ps := ["_law_spring_here", "_law_many"]) fun _ _ _ _ _ _ us hl => match us, hl with | [_, _], _ => rfl
  have F8 := fun_mk (st := s__law_pick) l8 c8 k8
  have b8 := F8.binds (ps := ["_law_spring_here", "_law_some"]) fun _ _ _ _ _ _ us hl => match us, hl with | [_, _], _ => rfl
  have F9 := fun_mk (st := s__law_far) l9 c9 k9
  have b9 := F9.binds (ps := ["_law_spring_here", "_law_most"]) fun _ _ _ _ _ _ us hl => match us, hl with | [_, _], _ => rfl
  have F10 := fun_mk (st := s__law_gcd) l10 c10 k10
  have b10 := F10.binds (ps := ["_law_one", "_law_other"]) fun _ _ _ _ _ _ us hl => match us, hl with | [_, _], _ => rfl
  have F11 := fun_mk (st := s__law_weights) l11 c11 k11
  have b11 := F11.binds (ps := ["_law_spring_here", "_law_dims"]) fun _ _ _ _ _ _ us hl => match us, hl with | [_, _], _ => rfl
  have F12 := fun_mk (st := s__law_box) l12 c12 k12
  have b12 := F12.binds (ps := ["_law_spring_here", "_law_dims"]) fun _ _ _ _ _ _ us hl => match us, hl with | [_, _], _ => rfl
  have F13 := fun_mk (st := s__law_great) l13 c13 k13
  have b13 := F13.binds (ps := ["_law_spring_here", "_law_dims"]) fun _ _ _ _ _ _ us hl => match us, hl with | [_, _], _ => rfl
  have F14 := fun_mk (st := s__law_dot) l14 c14 k14
  have b14 := F14.binds (ps := ["_law_one", "_law_other"]) fun _ _ _ _ _ _ us hl => match us, hl with | [_, _], _ => rfl
  have F15 := fun_mk (st := s__law_points) l15 c15 k15
  have b15 := F15.binds (ps := ["_law_box_here"]) fun _ _ _ _ _ _ us hl => match us, hl with | [_], _ => rfl
  have F16 := fun_mk (st := s__law_between) l16 c16 k16
  have b16 := F16.binds (ps := ["_law_low", "_law_high", "_law_first", "_law_step"]) fun _ _ _ _ _ _ us hl => match us, hl with | [_, _, _, _], _ => rfl
  have F17 := fun_mk (st := s__law_single) l17 c17 k17
  have b17 := F17.binds (ps := ["_law_weight", "_law_size", "_law_beat"]) fun _ _ _ _ _ _ us hl => match us, hl with | [_, _, _], _ => rfl
  have F18 := fun_mk (st := s__law_double) l18 c18 k18
  have b18 := F18.binds (ps := ["_law_weights_here", "_law_box_here", "_law_beat"]) fun _ _ _ _ _ _ us hl => match us, hl with | [_, _, _], _ => rfl
  have F19 := fun_mk (st := s__law_due) l19 c19 k19
  have b19 := F19.binds (ps := ["_law_weights_here", "_law_box_here", "_law_beat"]) fun _ _ _ _ _ _ us hl => match us, hl with | [_, _, _], _ => rfl
  have F20 := fun_mk (st := s_law) l20 c20 k20
  have b20 := F20.binds (ps := ["_law_script"]) fun _ _ _ _ _ _ us hl => match us, hl with | [_], _ => rfl
  refine ⟨PySem.W.fnOf "law" "law" (defArgs s_law) (defBody s_law) (defScope s_law) .none kV20 dc20 pm20 an20 cd20 ct20, fun s v => .of_eq rfl, fun base _ _ => ?_⟩
  exact ok_law (⟨_, _, F0, PySem.W.mg_of X G x0, b0, _, _, F1, PySem.W.mg_of X G x1, b1, _, _, F2, PySem.W.mg_of X G x2, b2, _, _, F3, PySem.W.mg_of X G x3, b3, _, _, F4, PySem.W.mg_of X G x4, b4, _, _, F5, PySem.W.mg_of X G x5, b5, _, _, F6, PySem.W.mg_of X G x6, b6, _, _, F7, PySem.W.mg_of X G x7, b7, _, _, F8, PySem.W.mg_of X G x8, b8, _, _, F9, PySem.W.mg_of X G x9, b9, _, _, F10, PySem.W.mg_of X G x10, b10, _, _, F11, PySem.W.mg_of X G x11, b11, _, _, F12, PySem.W.mg_of X G x12, b12, _, _, F13, PySem.W.mg_of X G x13, b13, _, _, F14, PySem.W.mg_of X G x14, b14, _, _, F15, PySem.W.mg_of X G x15, b15, _, _, F16, PySem.W.mg_of X G x16, b16, _, _, F17, PySem.W.mg_of X G x17, b17, _, _, F18, PySem.W.mg_of X G x18, b18, _, _, F19, PySem.W.mg_of X G x19, b19, _, _, F20, PySem.W.mg_of X G x20, b20, PySem.W.mg_none_of X G z_abs, PySem.W.mg_none_of X G z_all, PySem.W.mg_none_of X G z_enumerate, PySem.W.mg_none_of X G z_int, PySem.W.mg_none_of X G z_len, PySem.W.mg_none_of X G z_list, PySem.W.mg_none_of X G z_max, PySem.W.mg_none_of X G z_min, PySem.W.mg_none_of X G z_range, PySem.W.mg_none_of X G z_repr, PySem.W.mg_none_of X G z_set, PySem.W.mg_none_of X G z_sorted, PySem.W.mg_none_of X G z_sum, PySem.W.mg_none_of X G z_tuple, PySem.W.mg_none_of X G z_zip⟩ : Tp K mg)
theorem law_sp (K : PySem.W.Frag) (H : Hp) (a : Addr) (ns : List Int) (hS : SqL K H a (ns.map V.int)) : spD K lawF [.ref a] H (fun v _ => v = .bl true) fun _ _ _ => False := by
  refine ⟨Rg.none, H, [.dat (.list (pI ns))], fun c => c = .dat (.bool true), ⟨Same.refl H, fun _ z => z.elim, trivial⟩, ⟨Dp.lst hS (DpAll.ofInts ns), trivial⟩, fun c hc => by rw [List.mem_singleton.mp hc]; trivial, ⟨ns, rfl, rfl, rfl⟩, fun v c G' H' g ok _ q => ?_⟩
  subst q
  cases ok
  rfl
end K42
open PySem PySem.W PyProof.Rows
set_option maxRecDepth 100000 in
set_option maxHeartbeats 0 in
theorem PySem.Challenge.cw_wirebeats_k42_points_at_a_beat_holds : PySem.Challenge.rw_wirebeats_k42_points_at_a_beat.Holds := by
  w_on; o_law; k_head; (case hw => w_witness2)
  k_fill
  refine L2.walk_of (l := PySem.Challenge.rw_wirebeats_k42_points_at_a_beat) (n := 63) (k := 5) (x := "_law_script") (CX := fun _ => L2.CX0) (sp := fun w => L3.spD _ K42.lawF) rfl (by decide) rfl ⟨rfl, by decide, by decide⟩ (fun w h Y => PySem.W.kIn_of Y) ?F (fun w H a ns _ _ hS => K42.law_sp _ H a ns hS) fun _ _ _ _ _ z => z
  case F =>
    intro w mg fa h KX G hmg
    refine' K42.all_mk KX G hmg ?x0 ?l0 ?c0 ?k0 ?x1 ?l1 ?c1 ?k1 ?x2 ?l2 ?c2 ?k2 ?x3 ?l3 ?c3 ?k3 ?x4 ?l4 ?c4 ?k4 ?x5 ?l5 ?c5 ?k5 ?x6 ?l6 ?c6 ?k6 ?x7 ?l7 ?c7 ?k7 ?x8 ?l8 ?c8 ?k8 ?x9 ?l9 ?c9 ?k9 ?x10 ?l10 ?c10 ?k10 ?x11 ?l11 ?c11 ?k11 ?x12 ?l12 ?c12 ?k12 ?x13 ?l13 ?c13 ?k13 ?x14 ?l14 ?c14 ?k14 ?x15 ?l15 ?c15 ?k15 ?x16 ?l16 ?c16 ?k16 ?x17 ?l17 ?c17 ?k17 ?x18 ?l18 ?c18 ?k18 ?x19 ?l19 ?c19 ?k19 ?x20 ?l20 ?c20 ?k20 ?z_abs ?z_all ?z_enumerate ?z_int ?z_len ?z_list ?z_max ?z_min ?z_range ?z_repr ?z_set ?z_sorted ?z_sum ?z_tuple ?z_zip
    (case x0 => k_is)
    (case l0 => k_is)
    (case c0 => k_is)
    (case k0 => k_is)
    (case x1 => k_is)
    (case l1 => k_is)
    (case c1 => k_is)
    (case k1 => k_is)
    (case x2 => k_is)
    (case l2 => k_is)
    (case c2 => k_is)
    (case k2 => k_is)
    (case x3 => k_is)
    (case l3 => k_is)
    (case c3 => k_is)
    (case k3 => k_is)
    (case x4 => k_is)
    (case l4 => k_is)
    (case c4 => k_is)
    (case k4 => k_is)
    (case x5 => k_is)
    (case l5 => k_is)
    (case c5 => k_is)
    (case k5 => k_is)
    (case x6 => k_is)
    (case l6 => k_is)
    (case c6 => k_is)
    (case k6 => k_is)
    (case x7 => k_is)
    (case l7 => k_is)
    (case c7 => k_is)
    (case k7 => k_is)
    (case x8 => k_is)
    (case l8 => k_is)
    (case c8 => k_is)
    (case k8 => k_is)
    (case x9 => k_is)
    (case l9 => k_is)
    (case c9 => k_is)
    (case k9 => k_is)
    (case x10 => k_is)
    (case l10 => k_is)
    (case c10 => k_is)
    (case k10 => k_is)
    (case x11 => k_is)
    (case l11 => k_is)
    (case c11 => k_is)
    (case k11 => k_is)
    (case x12 => k_is)
    (case l12 => k_is)
    (case c12 => k_is)
    (case k12 => k_is)
    (case x13 => k_is)
    (case l13 => k_is)
    (case c13 => k_is)
    (case k13 => k_is)
    (case x14 => k_is)
    (case l14 => k_is)
    (case c14 => k_is)
    (case k14 => k_is)
    (case x15 => k_is)
    (case l15 => k_is)
    (case c15 => k_is)
    (case k15 => k_is)
    (case x16 => k_is)
    (case l16 => k_is)
    (case c16 => k_is)
    (case k16 => k_is)
    (case x17 => k_is)
    (case l17 => k_is)
    (case c17 => k_is)
    (case k17 => k_is)
    (case x18 => k_is)
    (case l18 => k_is)
    (case c18 => k_is)
    (case k18 => k_is)
    (case x19 => k_is)
    (case l19 => k_is)
    (case c19 => k_is)
    (case k19 => k_is)
    (case x20 => k_is)
    (case l20 => k_is)
    (case c20 => k_is)
    (case k20 => k_is)
    (case z_abs => k_is)
    (case z_all => k_is)
    (case z_enumerate => k_is)
    (case z_int => k_is)
    (case z_len => k_is)
    (case z_list => k_is)
    (case z_max => k_is)
    (case z_min => k_is)
    (case z_range => k_is)
    (case z_repr => k_is)
    (case z_set => k_is)
    (case z_sorted => k_is)
    (case z_sum => k_is)
    (case z_tuple => k_is)
    (case z_zip => k_is)
