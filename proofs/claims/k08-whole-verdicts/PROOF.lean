import PyProof.Rows.All
import Wide.All
import OpenK.AllK
import Wide.FinOn
import HandS.ForMost
import HandS.Style
import HandS.TupAny
import HandS.Deep
import HandS.Conv
import HandS.Strs
import HandS.More
import HandS.DictComp
import Open.Row
import PySem.Challenge.RW_nonearer_k08_whole_verdicts_of_summaries
import KE.KStateDown
import HandS.Head0
import HandS.Head1
import HandS.Head2
import HandS.HeadEnd
import HandS.HeadHook1
set_option Elab.async false
set_option linter.all false
set_option maxRecDepth 100000
set_option maxHeartbeats 4000000
/-! D8: a data layer over the hand layer. Values are told by plain data (PyData); readings become readings over data alone. -/
namespace D8
open PySem PySem.Spec PyProof.Rows L2

abbrev Ext8 (H H' : Hp) : Prop := ∀ a o, H a = some o → H' a = some o
theorem ext_rfl (H : Hp) : Ext8 H H := fun _ _ h => h
theorem ext_tr {H H1 H2 : Hp} (a : Ext8 H H1) (b : Ext8 H1 H2) : Ext8 H H2 := fun x o h => b x o (a x o h)
theorem ext_new {H : Hp} {p : Addr} {o : HO} (h : H p = none) : Ext8 H (upd H p o) := fun a u e => by
  rw [upd_ne (ne_of_none e h)]; exact e
theorem ext_back {H H' : Hp} {p : Addr} (e : Ext8 H H') (h : H' p = none) : H p = none := by
  cases h1 : H p with
  | none => rfl
  | some o => rw [e p o h1] at h; cases h

/-! ### data at a value, every object tracked -/
mutual
inductive Dt (H : Hp) : V → PyData → Prop
  | non : Dt H .non .none
  | bl (b : Bool) : Dt H (.bl b) (.bool b)
  | int (i : Int) : Dt H (.int i) (.int i)
  | str (x : Str) : Dt H (.str x) (.str x)
  | lst {a : Addr} {xs : List V} {ds : List PyData} : H a = some (.lst xs) → Dts H xs ds → Dt H (.ref a) (.list ds)
  | tup {a : Addr} {xs : List V} {ds : List PyData} : H a = some (.tup xs) → Dts H xs ds → Dt H (.ref a) (.tuple ds)
inductive Dts (H : Hp) : List V → List PyData → Prop
  | nil : Dts H [] []
  | cons {v : V} {d : PyData} {vs : List V} {ds : List PyData} : Dt H v d → Dts H vs ds → Dts H (v :: vs) (d :: ds)
end
mutual
theorem Dt.mono {G H : Hp} (e : Ext8 G H) : ∀ (d : PyData) (v : V), Dt G v d → Dt H v d
  | .none, _, h => by cases h; exact .non
  | .bool b, _, h => by cases h; exact .bl b
  | .int i, _, h => by cases h; exact .int i
  | .str x, _, h => by cases h; exact .str x
  | .list ds, _, h => by
    cases h with
    | lst h1 h2 => exact .lst (e _ _ h1) (Dts.mono e ds _ h2)
  | .tuple ds, _, h => by
    cases h with
    | tup h1 h2 => exact .tup (e _ _ h1) (Dts.mono e ds _ h2)
  | .dict _, _, h => by cases h
theorem Dts.mono {G H : Hp} (e : Ext8 G H) : ∀ (ds : List PyData) (vs : List V), Dts G vs ds → Dts H vs ds
  | [], _, h => by cases h; exact .nil
  | d :: ds, _, h => by
    cases h with
    | cons h1 h2 => exact .cons (Dt.mono e d _ h1) (Dts.mono e ds _ h2)
end
mutual
theorem Dt.dp {K : PySem.W.Frag} {H : Hp} : ∀ (d : PyData) (v : V), Dt H v d → Dp K H v d
  | .none, _, h => by cases h; exact .non
  | .bool b, _, h => by cases h; exact .bl b
  | .int i, _, h => by cases h; exact .int i
  | .str x, _, h => by cases h; exact .str x
  | .list ds, _, h => by
    cases h with
    | lst h1 h2 => exact .lst (SqL.of h1) (Dts.dp ds _ h2)
  | .tuple ds, _, h => by
    cases h with
    | tup h1 h2 => exact .tup (SqT.of h1) (Dts.dp ds _ h2)
  | .dict _, _, h => by cases h
theorem Dts.dp {K : PySem.W.Frag} {H : Hp} : ∀ (ds : List PyData) (vs : List V), Dts H vs ds → DpAll K H vs ds
  | [], _, h => by cases h; exact .nil
  | d :: ds, _, h => by
    cases h with
    | cons h1 h2 => exact .cons (Dt.dp d _ h1) (Dts.dp ds _ h2)
end
theorem Dts.length {H : Hp} : ∀ {ds : List PyData} {vs : List V}, Dts H vs ds → vs.length = ds.length
  | [], _, h => by cases h; rfl
  | d :: ds, _, h => by
    cases h with
    | cons h1 h2 => rw [List.length_cons, List.length_cons, Dts.length h2]
theorem Dts.get {H : Hp} : ∀ {ds : List PyData} {vs : List V} {i : Nat} {d : PyData}, Dts H vs ds → ds[i]? = some d → ∃ v, vs[i]? = some v ∧ Dt H v d
  | [], _, _, _, _, e => by simp at e
  | _ :: _, _, 0, _, .cons h1 _, e => ⟨_, rfl, by simp at e; exact e ▸ h1⟩
  | _ :: ds, _, i + 1, d, .cons _ h2, e => by
    obtain ⟨v, h3, h4⟩ := Dts.get (i := i) (d := d) h2 (by simpa using e)
    exact ⟨v, by simpa using h3, h4⟩
theorem Dts.getV {H : Hp} : ∀ {ds : List PyData} {vs : List V} {i : Nat} {v : V}, Dts H vs ds → vs[i]? = some v → ∃ d, ds[i]? = some d ∧ Dt H v d
  | _, [], _, _, _, e => by simp at e
  | _, _ :: _, 0, _, .cons h1 _, e => ⟨_, rfl, by simp at e; exact e ▸ h1⟩
  | _, _ :: vs, i + 1, v, .cons _ h2, e => by
    obtain ⟨v, h3, h4⟩ := Dts.getV (i := i) (v := v) h2 (by simpa using e)
    exact ⟨v, by simpa using h3, h4⟩
theorem Dts.append {H : Hp} : ∀ {ds es : List PyData} {vs us : List V}, Dts H vs ds → Dts H us es → Dts H (vs ++ us) (ds ++ es)
  | _, _, _, _, .nil, h => h
  | _, _, _, _, .cons h1 h2, h => .cons h1 (Dts.append h2 h)
theorem Dts.drop {H : Hp} : ∀ (n : Nat) {ds : List PyData} {vs : List V}, Dts H vs ds → Dts H (vs.drop n) (ds.drop n)
  | 0, _, _, h => h
  | _ + 1, _, _, .nil => .nil
  | n + 1, _, _, .cons _ h => Dts.drop n h
theorem Dts.take {H : Hp} : ∀ (n : Nat) {ds : List PyData} {vs : List V}, Dts H vs ds → Dts H (vs.take n) (ds.take n)
  | 0, _, _, _ => .nil
  | _ + 1, _, _, .nil => .nil
  | n + 1, _, _, .cons h1 h => .cons h1 (Dts.take n h)
theorem Dts.one {H : Hp} {v : V} {d : PyData} (h : Dt H v d) : Dts H [v] [d] := .cons h .nil
theorem Dts.eraseIdx {H : Hp} : ∀ (n : Nat) {ds : List PyData} {vs : List V}, Dts H vs ds → Dts H (vs.eraseIdx n) (ds.eraseIdx n)
  | _, _, _, .nil => .nil
  | 0, _, _, .cons _ h => h
  | n + 1, _, _, .cons h1 h => .cons h1 (Dts.eraseIdx n h)
theorem Dts.repl {H : Hp} {v : V} {d : PyData} (h : Dt H v d) : ∀ n : Nat, Dts H (List.replicate n v) (List.replicate n d)
  | 0 => .nil
  | n + 1 => .cons h (Dts.repl h n)

/-! ### masks -/
open Classical in
noncomputable def mask (m : Addr → Prop) (H : Hp) : Hp := fun a => if m a then none else H a
theorem mask_out {m : Addr → Prop} {H : Hp} {a : Addr} (h : ¬ m a) : mask m H a = H a := by unfold mask; rw [if_neg h]
theorem mask_in {m : Addr → Prop} {H : Hp} {a : Addr} (h : m a) : mask m H a = none := by unfold mask; rw [if_pos h]
theorem mask_some {m : Addr → Prop} {H : Hp} {a : Addr} {o : HO} (h : mask m H a = some o) : ¬ m a ∧ H a = some o := by
  by_cases q : m a
  · rw [mask_in q] at h; cases h
  · rw [mask_out q] at h; exact ⟨q, h⟩
theorem mask_sub {m : Addr → Prop} {H : Hp} : Ext8 (mask m H) H := fun _ _ h => (mask_some h).2
theorem mask_ext {m : Addr → Prop} {H H' : Hp} (e : ∀ a o, ¬ m a → H a = some o → H' a = some o) : Ext8 (mask m H) (mask m H') := fun a o h => by
  obtain ⟨h1, h2⟩ := mask_some h
  rw [mask_out h1]; exact e a o h1 h2
theorem mask_less {m m' : Addr → Prop} {H : Hp} (e : ∀ a, m' a → m a) : Ext8 (mask m H) (mask m' H) := fun a o h => by
  obtain ⟨h1, h2⟩ := mask_some h
  rw [mask_out fun z => h1 (e a z)]; exact h2
theorem mask_at {m : Addr → Prop} {H : Hp} {a : Addr} {o : HO} (h : H a = some o) (n : ¬ m a) : mask m H a = some o := by rw [mask_out n]; exact h

/-! ### slots, frames, states -/
/-- an object of the def's own, under construction: a list, a dict with text keys -/
inductive Ow where
  | lst (ds : List PyData)
  | dic (ks : List (Str × PyData))
inductive Sl where
  | un
  | dat (d : PyData)
  | own (o : Ow)
  | heap
def OwOk (G : Hp) (u : HO) : Ow → Prop
  | .lst ds => ∃ vs, u = .lst vs ∧ Dts G vs ds
  | .dic ks => ∃ kvs : List (Key × V), u = .dK kvs ∧ kvs.map (·.1) = ks.map (fun p => Sum.inr p.1) ∧ Dts G (kvs.map (·.2)) (ks.map (·.2))
theorem OwOk.mono {G H : Hp} (e : Ext8 G H) {u : HO} : ∀ {o : Ow}, OwOk G u o → OwOk H u o
  | .lst ds, ⟨vs, h1, h2⟩ => ⟨vs, h1, Dts.mono e _ _ h2⟩
  | .dic ks, ⟨kvs, h1, h2, h3⟩ => ⟨kvs, h1, h2, Dts.mono e _ _ h3⟩

/-- what is known of the heap of draws: its two lists -/
def CellsOk (cells : List Int) (st : Int) : Prop := cells.length ≤ 63 ∧ 0 ≤ st ∧ st < 2147483647
def Src (a c : Addr) (H : Hp) : Prop := a ≠ c ∧ ∃ (cells : List Int) (st : Int), H a = some (.lst [.ref c, .int st]) ∧ H c = some (.lst (cells.map V.int)) ∧ CellsOk cells st

structure Fr8 where
  /-- masked objects, as they stand -/
  m : Hp
  H0 : Hp
  hp : Option (Addr × Addr)
  pins : List (V × PyData)
abbrev Fr8.pin (F : Fr8) (v : V) (d : PyData) : Fr8 := { F with pins := (v, d) :: F.pins }
abbrev Fr8.frz (F : Fr8) (a : Addr) (o : HO) : Fr8 := { F with m := upd F.m a o }
def IsHp (o : Option (Addr × Addr)) (b : Addr) : Prop := ∃ a c, o = some (a, c) ∧ (b = a ∨ b = c)
def OwnsAt (σ : L2.St) (ρ : List Sl) (a : Addr) : Prop := ∃ (i : Nat) (ds : Ow), ρ[i]? = some (.own ds) ∧ σ[i]? = some (some (.ref a))
def M8 (F : Fr8) (σ : L2.St) (ρ : List Sl) : Addr → Prop := fun a => OwnsAt σ ρ a ∨ IsHp F.hp a ∨ F.m a ≠ none

structure St8 (F : Fr8) (ρ : List Sl) (σ : L2.St) (H : Hp) : Prop where
  len : σ.length = ρ.length
  src : ∀ a c, F.hp = some (a, c) → Src a c H
  fz : ∀ a o, F.m a = some o → H a = some o
  sep1 : ∀ a, OwnsAt σ ρ a → ¬ IsHp F.hp a ∧ F.m a = none
  sep2 : ∀ a, IsHp F.hp a → F.m a = none
  sep3 : ∀ (i j : Nat) (a : Addr) (di dj : Ow), ρ[i]? = some (.own di) → ρ[j]? = some (.own dj) → σ[i]? = some (some (.ref a)) → σ[j]? = some (some (.ref a)) → i = j
  fo : ∀ a, OwnsAt σ ρ a → F.H0 a = none
  ex : ∀ (a : Addr) (o : HO), ¬ IsHp F.hp a → F.H0 a = some o → H a = some o
  dat : ∀ (i : Nat) (d : PyData), ρ[i]? = some (.dat d) → ∃ v, σ[i]? = some (some v) ∧ Dt (mask (M8 F σ ρ) H) v d
  own : ∀ (i : Nat) (ds : Ow), ρ[i]? = some (.own ds) → ∃ l vs, σ[i]? = some (some (.ref l)) ∧ H l = some vs ∧ OwOk (mask (M8 F σ ρ) H) vs ds
  hp : ∀ i : Nat, ρ[i]? = some .heap → ∃ a c, F.hp = some (a, c) ∧ σ[i]? = some (some (.ref a))
  pins : ∀ p ∈ F.pins, Dt (mask (M8 F σ ρ) H) p.1 p.2

section
variable {F : Fr8} {ρ ρ' : List Sl} {σ σ' : L2.St} {H H' : Hp}
theorem Src.at (s : Src a c H) {b : Addr} (h : b = a ∨ b = c) : ∃ o, H b = some o := by
  obtain ⟨_, cells, st, h1, h2, _⟩ := s
  rcases h with e | e
  · exact ⟨_, e ▸ h1⟩
  · exact ⟨_, e ▸ h2⟩
theorem St8.al (s : St8 F ρ σ H) : ∀ a, M8 F σ ρ a → H a ≠ none := fun a h z => by
  rcases h with ⟨i, ds, h1, h2⟩ | ⟨x, y, h1, h2⟩ | h
  · obtain ⟨l, vs, e1, e2, _⟩ := s.own i ds h1
    rw [h2] at e1; cases e1
    rw [z] at e2; cases e2
  · obtain ⟨o, e⟩ := (s.src x y h1).at h2
    rw [z] at e; cases e
  · cases q : F.m a with
    | none => exact h q
    | some o => rw [s.fz a o q] at z; cases z
theorem St8.newH0 (s : St8 F ρ σ H) {p : Addr} (h : H p = none) : F.H0 p = none := by
  cases q : F.H0 p with
  | none => rfl
  | some o =>
    by_cases hp : IsHp F.hp p
    · obtain ⟨x, y, h1, h2⟩ := hp
      obtain ⟨o', e⟩ := (s.src x y h1).at h2
      rw [h] at e; cases e
    · rw [s.ex p o hp q] at h; cases h
theorem St8.newM (s : St8 F ρ σ H) {p : Addr} (h : H p = none) : ¬ M8 F σ ρ p := fun z => s.al p z h
/-- a step that leaves all but the heap of draws -/
theorem St8.go (s : St8 F ρ σ H) (e : ∀ a o, ¬ IsHp F.hp a → H a = some o → H' a = some o) (hs : ∀ a c, F.hp = some (a, c) → Src a c H') : St8 F ρ σ H' := by
  have me : Ext8 (mask (M8 F σ ρ) H) (mask (M8 F σ ρ) H') := mask_ext fun a o n h => e a o (fun z => n (.inr (.inl z))) h
  refine ⟨s.len, hs, fun a o h => e a o (fun z => ?_) (s.fz a o h), s.sep1, s.sep2, s.sep3, s.fo, fun a o n h => e a o n (s.ex a o n h), fun i d h => ?_, fun i ds h => ?_, s.hp, fun p hp => Dt.mono me _ _ (s.pins p hp)⟩
  · rw [s.sep2 a z] at h; cases h
  · obtain ⟨v, h1, h2⟩ := s.dat i d h
    exact ⟨v, h1, Dt.mono me _ _ h2⟩
  · obtain ⟨l, vs, h1, h2, h3⟩ := s.own i ds h
    exact ⟨l, vs, h1, e l _ (s.sep1 l ⟨i, ds, h, h1⟩).1 h2, h3.mono me⟩
theorem Src.ext (s : Src a c H) (e : Ext8 H H') : Src a c H' := by
  obtain ⟨n, cells, st, h1, h2, h3⟩ := s
  exact ⟨n, cells, st, e _ _ h1, e _ _ h2, h3⟩
theorem St8.keep (s : St8 F ρ σ H) (e : Ext8 H H') : St8 F ρ σ H' := s.go (fun a o _ h => e a o h) fun a c h => (s.src a c h).ext e
theorem St8.pin (s : St8 F ρ σ H) {v : V} {d : PyData} (h : Dt (mask (M8 F σ ρ) H) v d) : St8 (F.pin v d) ρ σ H :=
  ⟨s.len, s.src, s.fz, s.sep1, s.sep2, s.sep3, s.fo, s.ex, s.dat, s.own, s.hp, fun p hp => by
    rcases List.mem_cons.mp hp with e | hp
    · rw [e]; exact h
    · exact s.pins p hp⟩
theorem St8.unpin {v : V} {d : PyData} (s : St8 (F.pin v d) ρ σ H) : St8 F ρ σ H :=
  ⟨s.len, s.src, s.fz, s.sep1, s.sep2, s.sep3, s.fo, s.ex, s.dat, s.own, s.hp, fun p hp => s.pins p (List.mem_cons_of_mem _ hp)⟩
theorem St8.pinned {v : V} {d : PyData} (s : St8 (F.pin v d) ρ σ H) : Dt (mask (M8 F σ ρ) H) v d := s.pins (v, d) List.mem_cons_self
/-- less is told, less is masked -/
theorem St8.less (s : St8 F ρ σ H) (hl : σ'.length = ρ'.length) (h : ∀ (i : Nat) (x : Sl), ρ'[i]? = some x → x ≠ .un → ρ[i]? = some x ∧ σ'[i]? = σ[i]?) : St8 F ρ' σ' H := by
  have ow : ∀ (i : Nat) (ds : Ow), ρ'[i]? = some (.own ds) → ρ[i]? = some (.own ds) ∧ σ'[i]? = σ[i]? := fun i ds e => h i _ e nofun
  have oa : ∀ a, OwnsAt σ' ρ' a → OwnsAt σ ρ a := fun a ⟨i, ds, e1, e2⟩ => ⟨i, ds, (ow i ds e1).1, (ow i ds e1).2 ▸ e2⟩
  have me : Ext8 (mask (M8 F σ ρ) H) (mask (M8 F σ' ρ') H) := mask_less fun a z => by
    rcases z with z | z
    · exact .inl (oa a z)
    · exact .inr z
  refine ⟨hl, s.src, s.fz, fun a z => s.sep1 a (oa a z), s.sep2, fun i j a di dj h1 h2 h3 h4 => ?_, fun a z => s.fo a (oa a z), s.ex, fun i d e => ?_, fun i ds e => ?_, fun i e => ?_, fun p hp => Dt.mono me _ _ (s.pins p hp)⟩
  · obtain ⟨e1, e2⟩ := ow i di h1
    obtain ⟨e3, e4⟩ := ow j dj h2
    exact s.sep3 i j a di dj e1 e3 (e2 ▸ h3) (e4 ▸ h4)
  · obtain ⟨e1, e2⟩ := h i _ e nofun
    obtain ⟨v, h1, h2⟩ := s.dat i d e1
    exact ⟨v, e2.trans h1, Dt.mono me _ _ h2⟩
  · obtain ⟨e1, e2⟩ := ow i ds e
    obtain ⟨l, vs, h1, h2, h3⟩ := s.own i ds e1
    exact ⟨l, vs, e2.trans h1, h2, h3.mono me⟩
  · obtain ⟨e1, e2⟩ := h i _ e nofun
    obtain ⟨a, c, h1, h2⟩ := s.hp i e1
    exact ⟨a, c, h1, e2.trans h2⟩
theorem set_get {α : Type} {l : List α} {i j : Nat} {x y : α} (h : (l.set i x)[j]? = some y) : (j = i ∧ y = x) ∨ (j ≠ i ∧ l[j]? = some y) := by
  by_cases e : j = i
  · subst e
    left
    refine ⟨rfl, ?_⟩
    by_cases hl : j < l.length
    · rw [List.getElem?_set_self hl] at h; exact (Option.some.inj h).symm
    · rw [List.getElem?_eq_none (by simpa using hl)] at h; cases h
  · right
    refine ⟨e, ?_⟩
    rw [List.getElem?_set_ne (Ne.symm e)] at h; exact h
/-- a slot is stored -/
theorem St8.set (s : St8 F ρ σ H) {i : Nat} {v : V} {d : PyData} (h : Dt (mask (M8 F σ ρ) H) v d) : St8 F (ρ.set i (.dat d)) (σ.set i (some v)) H := by
  have s1 : St8 F (ρ.set i .un) (σ.set i (some v)) H := s.less (by simp [s.len]) fun j x e n => by
    rcases set_get e with ⟨rfl, rfl⟩ | ⟨e1, e2⟩
    · exact absurd rfl n
    · exact ⟨e2, List.getElem?_set_ne (Ne.symm e1)⟩
  have oa : ∀ a, OwnsAt (σ.set i (some v)) (ρ.set i (.dat d)) a → OwnsAt (σ.set i (some v)) (ρ.set i .un) a := fun a ⟨j, ds, e1, e2⟩ => by
    rcases set_get e1 with ⟨rfl, e⟩ | ⟨n1, n2⟩
    · cases e
    · exact ⟨j, ds, by rw [List.getElem?_set_ne (Ne.symm n1)]; exact n2, e2⟩
  have oa' : ∀ a, OwnsAt (σ.set i (some v)) (ρ.set i (.dat d)) a → OwnsAt σ ρ a := fun a ⟨j, ds, e1, e2⟩ => by
    rcases set_get e1 with ⟨rfl, e⟩ | ⟨n1, n2⟩
    · cases e
    · exact ⟨j, ds, n2, by rw [List.getElem?_set_ne (Ne.symm n1)] at e2; exact e2⟩
  have me : Ext8 (mask (M8 F (σ.set i (some v)) (ρ.set i .un)) H) (mask (M8 F (σ.set i (some v)) (ρ.set i (.dat d))) H) := mask_less fun a z => by
    rcases z with z | z
    · exact .inl (oa a z)
    · exact .inr z
  have me' : Ext8 (mask (M8 F σ ρ) H) (mask (M8 F (σ.set i (some v)) (ρ.set i (.dat d))) H) := mask_less fun a z => by
    rcases z with z | z
    · exact .inl (oa' a z)
    · exact .inr z
  have ow : ∀ {j : Nat} {ds : Ow}, (ρ.set i (.dat d))[j]? = some (.own ds) → (ρ.set i .un)[j]? = some (.own ds) := fun {j ds} e1 => by
    rcases set_get e1 with ⟨rfl, e⟩ | ⟨n1, n2⟩
    · cases e
    · rw [List.getElem?_set_ne (Ne.symm n1)]; exact n2
  refine ⟨by simp [s.len], s.src, s.fz, fun a z => s1.sep1 a (oa a z), s.sep2, fun j k a dj dk h1 h2 h3 h4 => s1.sep3 j k a dj dk (ow h1) (ow h2) h3 h4, fun a z => s1.fo a (oa a z), s.ex, fun j e he => ?_, fun j ds he => ?_, fun j he => ?_, fun p hp => Dt.mono me _ _ (s1.pins p hp)⟩
  · rcases set_get he with ⟨rfl, e⟩ | ⟨n1, n2⟩
    · cases e
      refine ⟨v, ?_, Dt.mono me' _ _ h⟩
      have hj : j < ρ.length := by
        have := (List.getElem?_eq_some_iff.mp he).1
        simpa using this
      exact List.getElem?_set_self (by rw [s.len]; exact hj)
    · obtain ⟨w, h1, h2⟩ := s.dat j e n2
      exact ⟨w, by rw [List.getElem?_set_ne (Ne.symm n1)]; exact h1, Dt.mono me' _ _ h2⟩
  · obtain ⟨l, vs, h1, h2, h3⟩ := s1.own j ds (ow he)
    exact ⟨l, vs, h1, h2, h3.mono me⟩
  · rcases set_get he with ⟨rfl, e⟩ | ⟨n1, n2⟩
    · cases e
    · obtain ⟨a, c, h1, h2⟩ := s.hp j n2
      exact ⟨a, c, h1, by rw [List.getElem?_set_ne (Ne.symm n1)]; exact h2⟩
/-- a masked object is let free -/
theorem St8.melt {a : Addr} {o : HO} (s : St8 (F.frz a o) ρ σ H) (hn : F.m a = none) : St8 F ρ σ H := by
  have me : Ext8 (mask (M8 (F.frz a o) σ ρ) H) (mask (M8 F σ ρ) H) := mask_less fun b z => by
    rcases z with z | z | z
    · exact .inl z
    · exact .inr (.inl z)
    · refine .inr (.inr ?_)
      show upd F.m a o b ≠ none
      by_cases e : b = a
      · subst e; rw [upd_same]; exact nofun
      · rw [upd_ne e]; exact z
  have no : ∀ b, (F.frz a o).m b = none → F.m b = none := fun b h => by
    by_cases e : b = a
    · rw [e]; exact hn
    · have h' : upd F.m a o b = none := h
      rw [upd_ne e] at h'; exact h'
  refine ⟨s.len, s.src, fun b u h => s.fz b u ?_, fun b z => ⟨(s.sep1 b z).1, no b (s.sep1 b z).2⟩, fun b z => no b (s.sep2 b z), s.sep3, s.fo, s.ex, fun i d e => ?_, fun i ds e => ?_, s.hp, fun p hp => Dt.mono me _ _ (s.pins p hp)⟩
  · show upd F.m a o b = some u
    by_cases e : b = a
    · rw [e, hn] at h; cases h
    · rw [upd_ne e]; exact h
  · obtain ⟨v, h1, h2⟩ := s.dat i d e
    exact ⟨v, h1, Dt.mono me _ _ h2⟩
  · obtain ⟨l, vs, h1, h2, h3⟩ := s.own i ds e
    exact ⟨l, vs, h1, h2, h3.mono me⟩
/-- a new object is laid, masked from its making -/
theorem St8.lay (s : St8 F ρ σ H) {a : Addr} {o : HO} (h : H a = none) : St8 (F.frz a o) ρ σ (upd H a o) := by
  have nM := s.newM h
  have ex := ext_new (o := o) h
  have me : Ext8 (mask (M8 F σ ρ) H) (mask (M8 (F.frz a o) σ ρ) (upd H a o)) := fun b u q => by
    obtain ⟨q1, q2⟩ := mask_some q
    have nb : b ≠ a := ne_of_none q2 h
    refine mask_at (by rw [upd_ne nb]; exact q2) fun z => q1 ?_
    rcases z with z | z | z
    · exact .inl z
    · exact .inr (.inl z)
    · have z' : upd F.m a o b ≠ none := z
      rw [upd_ne nb] at z'; exact .inr (.inr z')
  have nm : F.m a = none := by
    cases q : F.m a with
    | none => rfl
    | some u => exact absurd (.inr (.inr (by rw [q]; exact nofun))) nM
  have ne : ∀ b, OwnsAt σ ρ b ∨ IsHp F.hp b → b ≠ a := fun b z e => nM (e ▸ z.elim .inl fun z => .inr (.inl z))
  refine ⟨s.len, fun x y e => (s.src x y e).ext ex, fun b u q => ?_, fun b z => ⟨(s.sep1 b z).1, ?_⟩, fun b z => ?_, s.sep3, s.fo, fun b u n q => ex b u (s.ex b u n q), fun i d e => ?_, fun i ds e => ?_, s.hp, fun p hp => Dt.mono me _ _ (s.pins p hp)⟩
  · have q' : upd F.m a o b = some u := q
    by_cases e : b = a
    · subst e; rw [upd_same] at q' ⊢; exact q'
    · rw [upd_ne e] at q' ⊢; exact s.fz b u q'
  · show upd F.m a o b = none
    rw [upd_ne (ne b (.inl z))]; exact (s.sep1 b z).2
  · show upd F.m a o b = none
    rw [upd_ne (ne b (.inr z))]; exact s.sep2 b z
  · obtain ⟨v, h1, h2⟩ := s.dat i d e
    exact ⟨v, h1, Dt.mono me _ _ h2⟩
  · obtain ⟨l, vs, h1, h2, h3⟩ := s.own i ds e
    exact ⟨l, vs, h1, ex _ _ h2, h3.mono me⟩
/-- a masked list changes -/
theorem St8.mut {a : Addr} {o o' : HO} (s : St8 (F.frz a o) ρ σ H) (h0 : F.H0 a = none) : St8 (F.frz a o') ρ σ (upd H a o') ∧ mask (M8 (F.frz a o') σ ρ) (upd H a o') = mask (M8 (F.frz a o) σ ρ) H := by
  have mm : ∀ b, ((F.frz a o').m b ≠ none) = ((F.frz a o).m b ≠ none) := fun b => by
    show (upd F.m a o' b ≠ none) = (upd F.m a o b ≠ none)
    by_cases e : b = a
    · subst e; rw [upd_same, upd_same]; simp
    · rw [upd_ne e, upd_ne e]
  have mM : M8 (F.frz a o') σ ρ = M8 (F.frz a o) σ ρ := by
    funext b
    show (OwnsAt σ ρ b ∨ IsHp F.hp b ∨ (F.frz a o').m b ≠ none) = (OwnsAt σ ρ b ∨ IsHp F.hp b ∨ (F.frz a o).m b ≠ none)
    rw [mm b]
  have ma : M8 (F.frz a o) σ ρ a := .inr (.inr (by show upd F.m a o a ≠ none; rw [upd_same]; exact nofun))
  have mk : mask (M8 (F.frz a o') σ ρ) (upd H a o') = mask (M8 (F.frz a o) σ ρ) H := by
    rw [mM]
    funext b
    by_cases q : M8 (F.frz a o) σ ρ b
    · rw [mask_in q, mask_in q]
    · rw [mask_out q, mask_out q, upd_ne (show b ≠ a from fun e => q (by rw [e]; exact ma))]
  have mn : ∀ b, (F.frz a o).m b = none → (F.frz a o').m b = none := fun b h => by
    have h' : upd F.m a o b = none := h
    show upd F.m a o' b = none
    by_cases e : b = a
    · subst e; rw [upd_same] at h'; cases h'
    · rw [upd_ne e] at h' ⊢; exact h'
  have na : ∀ b, OwnsAt σ ρ b ∨ IsHp F.hp b → b ≠ a := fun b z e => by
    have q : (F.frz a o).m b = none := z.elim (fun z => (s.sep1 b z).2) fun z => s.sep2 b z
    subst e
    have q' : upd F.m b o b = none := q
    rw [upd_same] at q'; cases q'
  refine ⟨⟨s.len, fun x y e => ?_, fun b u q => ?_, fun b z => ⟨(s.sep1 b z).1, mn b (s.sep1 b z).2⟩, fun b z => mn b (s.sep2 b z), s.sep3, s.fo, fun b u n q => ?_, fun i d e => ?_, fun i ds e => ?_, s.hp, fun p hp => ?_⟩, mk⟩
  · obtain ⟨n, cells, st, h1, h2, h3⟩ := s.src x y e
    exact ⟨n, cells, st, by rw [upd_ne (na x (.inr ⟨x, y, e, .inl rfl⟩))]; exact h1, by rw [upd_ne (na y (.inr ⟨x, y, e, .inr rfl⟩))]; exact h2, h3⟩
  · have q' : upd F.m a o' b = some u := q
    by_cases e : b = a
    · subst e; rw [upd_same] at q' ⊢; exact q'
    · rw [upd_ne e] at q' ⊢
      exact s.fz b u (by show upd F.m a o b = some u; rw [upd_ne e]; exact q')
  · by_cases e : b = a
    · subst e; rw [show F.H0 b = none from h0] at q; cases q
    · rw [upd_ne e]; exact s.ex b u n q
  · obtain ⟨v, h1, h2⟩ := s.dat i d e
    exact ⟨v, h1, by rw [mk]; exact h2⟩
  · obtain ⟨l, vs, h1, h2, h3⟩ := s.own i ds e
    exact ⟨l, vs, h1, by rw [upd_ne (na l (.inl ⟨i, ds, e, h1⟩))]; exact h2, by rw [mk]; exact h3⟩
  · rw [mk]; exact s.pins p hp
end
end D8
/-! D8: rules of the data layer: expressions. -/
namespace D8
open PySem PySem.Spec PyProof.Rows L2

abbrev WE := List Sl → (PyData → Prop) → Prop
abbrev WT := List Sl → (Bool → Prop) → Prop
abbrev WA := List Sl → (List PyData → Prop) → Prop
abbrev WO := List Sl → (Option Int → Prop) → Prop
abbrev W2 := PyData → PyData → (PyData → Prop) → Prop
abbrev WC := List PyData → (PyData → Prop) → Prop
def SndE (t : TE) (W : WE) : Prop := ∀ (F : Fr8) (ρ : List Sl) (σ : L2.St) (H : Hp) (P : PyData → Prop) (Q : VK), W ρ P → St8 F ρ σ H →
  (∀ v d H', P d → St8 F ρ σ H' → Dt (mask (M8 F σ ρ) H') v d → Q v H') → t σ H Q
def SndT (t : TT) (W : WT) : Prop := ∀ (F : Fr8) (ρ : List Sl) (σ : L2.St) (H : Hp) (P : Bool → Prop) (Q : Bool → Hp → Prop), W ρ P → St8 F ρ σ H →
  (∀ b H', P b → St8 F ρ σ H' → Q b H') → t σ H Q
def SndA (t : TA) (W : WA) : Prop := ∀ (F : Fr8) (ρ : List Sl) (σ : L2.St) (H : Hp) (P : List PyData → Prop) (Q : List V → Hp → Prop), W ρ P → St8 F ρ σ H →
  (∀ vs ds H', P ds → St8 F ρ σ H' → Dts (mask (M8 F σ ρ) H') vs ds → Q vs H') → t σ H Q
def SndO (t : TO) (W : WO) : Prop := ∀ (F : Fr8) (ρ : List Sl) (σ : L2.St) (H : Hp) (P : Option Int → Prop) (Q : Option Int → Hp → Prop), W ρ P → St8 F ρ σ H →
  (∀ o H', P o → St8 F ρ σ H' → Q o H') → t σ H Q
/-- an operation on two values; it may lay new objects alone -/
def SndR (r : R2) (w : W2) : Prop := ∀ (m : Addr → Prop) (H : Hp) (x y : V) (d e : PyData) (P : PyData → Prop) (Q : VK), w d e P → (∀ a, m a → H a ≠ none) →
  Dt (mask m H) x d → Dt (mask m H) y e → (∀ z f H', P f → Ext8 H H' → Dt (mask m H') z f → Q z H') → r x y H Q
def SndC (r : List V → Hp → VK → Prop) (w : WC) : Prop := ∀ (m : Addr → Prop) (H : Hp) (xs : List V) (ds : List PyData) (P : PyData → Prop) (Q : VK), w ds P → (∀ a, m a → H a ≠ none) →
  Dts (mask m H) xs ds → (∀ z f H', P f → Ext8 H H' → Dt (mask m H') z f → Q z H') → r xs H Q

/-! ### new objects -/
theorem fresh_m {m : Addr → Prop} {H : Hp} {p : Addr} (al : ∀ a, m a → H a ≠ none) (h : H p = none) : ¬ m p := fun z => al p z h
theorem mask_new {m : Addr → Prop} {H : Hp} {p : Addr} {o : HO} (h : H p = none) : Ext8 (mask m H) (mask m (upd H p o)) := mask_ext fun a u _ e => ext_new h a u e
theorem dt_tup {m : Addr → Prop} {H : Hp} {p : Addr} {xs : List V} {ds : List PyData} (al : ∀ a, m a → H a ≠ none) (h : H p = none) (hx : Dts (mask m H) xs ds) : Dt (mask m (upd H p (.tup xs))) (.ref p) (.tuple ds) :=
  .tup (mask_at upd_same (fresh_m al h)) (Dts.mono (mask_new h) _ _ hx)
theorem dt_lst {m : Addr → Prop} {H : Hp} {p : Addr} {xs : List V} {ds : List PyData} (al : ∀ a, m a → H a ≠ none) (h : H p = none) (hx : Dts (mask m H) xs ds) : Dt (mask m (upd H p (.lst xs))) (.ref p) (.list ds) :=
  .lst (mask_at upd_same (fresh_m al h)) (Dts.mono (mask_new h) _ _ hx)
theorem dts_ints {H : Hp} : ∀ {ns : List Int} {vs : List V}, Dts H vs (ns.map PyData.int) → vs = ns.map V.int
  | [], _, h => by cases h; rfl
  | n :: ns, _, h => by
    cases h with
    | cons h1 h2 => cases h1; rw [dts_ints h2]; rfl
theorem dts_strs {H : Hp} : ∀ {ns : List Str} {vs : List V}, Dts H vs (ns.map PyData.str) → vs = ns.map V.str
  | [], _, h => by cases h; rfl
  | n :: ns, _, h => by
    cases h with
    | cons h1 h2 => cases h1; rw [dts_strs h2]; rfl
theorem dts_bools {H : Hp} : ∀ {ns : List Bool} {vs : List V}, Dts H vs (ns.map PyData.bool) → vs = ns.map V.bl
  | [], _, h => by cases h; rfl
  | n :: ns, _, h => by
    cases h with
    | cons h1 h2 => cases h1; rw [dts_bools h2]; rfl
theorem ints_dts {H : Hp} : ∀ ns : List Int, Dts H (ns.map V.int) (ns.map PyData.int)
  | [] => .nil
  | n :: ns => .cons (.int n) (ints_dts ns)
theorem strs_dts {H : Hp} : ∀ ns : List Str, Dts H (ns.map V.str) (ns.map PyData.str)
  | [] => .nil
  | n :: ns => .cons (.str n) (strs_dts ns)

/-! ### slots, constants, shapes -/
def wVar (i : Nat) : WE := fun ρ P => ∃ d, ρ[i]? = some (.dat d) ∧ P d
def wC (d : PyData) : WE := fun _ P => P d
def wOp (w : W2) (wa wb : WE) : WE := fun ρ P => wa ρ fun x => wb ρ fun y => w x y P
def wUn (w : PyData → (PyData → Prop) → Prop) (wa : WE) : WE := fun ρ P => wa ρ fun x => w x P
def wNil : WA := fun _ P => P []
def wCons (we : WE) (wa : WA) : WA := fun ρ P => we ρ fun d => wa ρ fun ds => P (d :: ds)
def wTup (wa : WA) : WE := fun ρ P => wa ρ fun ds => ds.length ≤ sizeLine ∧ P (.tuple ds)
def wLst (wa : WA) : WE := fun ρ P => wa ρ fun ds => ds.length ≤ sizeLine ∧ P (.list ds)
def wCB (w : WC) (wa : WA) : WE := fun ρ P => wa ρ fun ds => w ds P
def wIfE (wt : WT) (wa wb : WE) : WE := fun ρ P => wt ρ fun b => (b = true → wa ρ P) ∧ (b = false → wb ρ P)
def wB (we : WE) : WT := fun ρ P => we ρ fun d => ∃ b, d = .bool b ∧ P b
def wAnd (wa wb : WT) : WT := fun ρ P => wa ρ fun b => (b = true → wb ρ P) ∧ (b = false → P false)
def wOr (wa wb : WT) : WT := fun ρ P => wa ρ fun b => (b = true → P true) ∧ (b = false → wb ρ P)
def wNot (wa : WT) : WT := fun ρ P => wa ρ fun b => P (!b)
def wAndV (wa wb : WE) : WE := fun ρ P => wa ρ fun d => ∃ b, d = .bool b ∧ (b = true → wb ρ P) ∧ (b = false → P (.bool false))
def wOrV (wa wb : WE) : WE := fun ρ P => wa ρ fun d => ∃ b, d = .bool b ∧ (b = true → P (.bool true)) ∧ (b = false → wb ρ P)
def wNotV (wa : WE) : WE := fun ρ P => wa ρ fun d => ∃ b, d = .bool b ∧ P (.bool (!b))
def wChain (w w' : W2) (wa wb wc : WE) : WE := fun ρ P => wa ρ fun x => wb ρ fun y => w x y fun z => ∃ k, z = .bool k ∧ (k = true → wc ρ fun u => w' y u P) ∧ (k = false → P (.bool false))
def isNon : PyData → Bool
  | .none => true
  | _ => false
def wIsN (wa : WE) : WE := fun ρ P => wa ρ fun d => P (.bool (isNon d))
def wNotN (wa : WE) : WE := fun ρ P => wa ρ fun d => P (.bool (!isNon d))

theorem Dt.nonI {H : Hp} {v : V} {d : PyData} (h : Dt H v d) : decide (v = .non) = isNon d := by
  cases h with
  | non => rfl
  | bl b => exact decide_eq_false nofun
  | int b => exact decide_eq_false nofun
  | str b => exact decide_eq_false nofun
  | lst _ _ => exact decide_eq_false nofun
  | tup _ _ => exact decide_eq_false nofun
theorem Dt.boolI {H : Hp} {v : V} {b : Bool} (h : Dt H v (.bool b)) : v = .bl b := by cases h; rfl
theorem Dt.intI {H : Hp} {v : V} {b : Int} (h : Dt H v (.int b)) : v = .int b := by cases h; rfl
theorem Dt.strI {H : Hp} {v : V} {b : Str} (h : Dt H v (.str b)) : v = .str b := by cases h; rfl

section
variable {ta tb tc : TE} {wa wb wc : WE} {tA tB' : TT} {wA wB' : WT} {r r' : R2} {w w' : W2} {K : PySem.W.Frag}
theorem snd_var (i : Nat) : SndE (tVar i) (wVar i) := fun F ρ σ H P Q ⟨d, e, p⟩ s q => by
  obtain ⟨v, h1, h2⟩ := s.dat i d e
  exact ⟨v, h1, q v d H p s h2⟩
theorem snd_int (n : Int) : SndE (tC (.int n)) (wC (.int n)) := fun F ρ σ H P Q p s q => q _ _ H p s (.int n)
theorem snd_str (n : Str) : SndE (tC (.str n)) (wC (.str n)) := fun F ρ σ H P Q p s q => q _ _ H p s (.str n)
theorem snd_bl (n : Bool) : SndE (tC (.bl n)) (wC (.bool n)) := fun F ρ σ H P Q p s q => q _ _ H p s (.bl n)
theorem snd_non : SndE (tC .non) (wC .none) := fun F ρ σ H P Q p s q => q _ _ H p s .non
theorem snd_op (hr : SndR r w) (ha : SndE ta wa) (hb : SndE tb wb) : SndE (tOp r ta tb) (wOp w wa wb) := fun F ρ σ H P Q hw s q =>
  ha F ρ σ H _ _ hw s fun v d H1 p1 s1 d1 => hb (F.pin v d) ρ σ H1 _ _ p1 (s1.pin d1) fun u e H2 p2 s2 d2 =>
    hr _ H2 v u d e P Q p2 s2.al s2.pinned d2 fun z f H3 p3 e3 d3 => q z f H3 p3 (s2.unpin.keep e3) d3
theorem snd_nil : SndA tNil wNil := fun F ρ σ H P Q p s q => q [] [] H p s .nil
theorem snd_cons {t : TA} {W : WA} (ha : SndE ta wa) (hb : SndA t W) : SndA (tCons ta t) (wCons wa W) := fun F ρ σ H P Q hw s q =>
  ha F ρ σ H _ _ hw s fun v d H1 p1 s1 d1 => hb (F.pin v d) ρ σ H1 _ _ p1 (s1.pin d1) fun us es H2 p2 s2 d2 => q _ _ H2 p2 s2.unpin (.cons s2.pinned d2)
theorem snd_tup {t : TA} {W : WA} (h : SndA t W) : SndE (tTup t) (wTup W) := fun F ρ σ H P Q hw s q =>
  h F ρ σ H _ _ hw s fun vs ds H1 p1 s1 d1 => ⟨by rw [d1.length]; exact p1.1, fun p hp => q _ _ _ p1.2 (s1.keep (ext_new hp)) (dt_tup s1.al hp d1)⟩
theorem snd_lst {t : TA} {W : WA} (h : SndA t W) : SndE (tLst t) (wLst W) := fun F ρ σ H P Q hw s q =>
  h F ρ σ H _ _ hw s fun vs ds H1 p1 s1 d1 => ⟨by rw [d1.length]; exact p1.1, fun p hp => q _ _ _ p1.2 (s1.keep (ext_new hp)) (dt_lst s1.al hp d1)⟩
theorem snd_cb {t : TA} {W : WA} {r : List V → Hp → VK → Prop} {w : WC} (hr : SndC r w) (h : SndA t W) : SndE (tCB r t) (wCB w W) := fun F ρ σ H P Q hw s q =>
  h F ρ σ H _ _ hw s fun vs ds H1 p1 s1 d1 => hr _ H1 vs ds P Q p1 s1.al d1 fun z f H2 p2 e2 d2 => q z f H2 p2 (s1.keep e2) d2
theorem snd_ifE {t : TT} {W : WT} (h : SndT t W) (ha : SndE ta wa) (hb : SndE tb wb) : SndE (tIf t ta tb) (wIfE W wa wb) := fun F ρ σ H P Q hw s q =>
  h F ρ σ H _ _ hw s fun b H1 p1 s1 => by
    cases b with
    | true => rw [if_pos rfl]; exact ha F ρ σ H1 P Q (p1.1 rfl) s1 q
    | false => rw [if_neg Bool.false_ne_true]; exact hb F ρ σ H1 P Q (p1.2 rfl) s1 q
theorem snd_B (h : SndE ta wa) : SndT (L2.tB ta) (wB wa) := fun F ρ σ H P Q hw s q =>
  h F ρ σ H _ _ hw s fun v d H1 ⟨b, e, p1⟩ s1 d1 => ⟨b, by subst e; exact d1.boolI, q b H1 p1 s1⟩
theorem snd_test (h : SndE ta wa) : SndT (tTest ta) (wB wa) := fun F ρ σ H P Q hw s q =>
  h F ρ σ H _ _ hw s fun v d H1 ⟨b, e, p1⟩ s1 d1 => ⟨b, by subst e; exact d1.boolI, q b H1 p1 s1⟩
theorem snd_and (ha : SndT tA wA) (hb : SndT tB' wB') : SndT (tAnd tA tB') (wAnd wA wB') := fun F ρ σ H P Q hw s q =>
  ha F ρ σ H _ _ hw s fun b H1 p1 s1 => by
    cases b with
    | true => rw [if_pos rfl]; exact hb F ρ σ H1 P Q (p1.1 rfl) s1 q
    | false => rw [if_neg Bool.false_ne_true]; exact q _ _ (p1.2 rfl) s1
theorem snd_or (ha : SndT tA wA) (hb : SndT tB' wB') : SndT (tOr tA tB') (wOr wA wB') := fun F ρ σ H P Q hw s q =>
  ha F ρ σ H _ _ hw s fun b H1 p1 s1 => by
    cases b with
    | true => rw [if_pos rfl]; exact q _ _ (p1.1 rfl) s1
    | false => rw [if_neg Bool.false_ne_true]; exact hb F ρ σ H1 P Q (p1.2 rfl) s1 q
theorem snd_not (ha : SndT tA wA) : SndT (tNot tA) (wNot wA) := fun F ρ σ H P Q hw s q =>
  ha F ρ σ H _ _ hw s fun b H1 p1 s1 => q _ _ p1 s1
theorem snd_andV (ha : SndE ta wa) (hb : SndE tb wb) : SndE (tAndV ta tb) (wAndV wa wb) := fun F ρ σ H P Q hw s q =>
  ha F ρ σ H _ _ hw s fun v d H1 ⟨b, e, p1, p2⟩ s1 d1 => ⟨b, by subst e; exact d1.boolI, by
    cases b with
    | true => rw [if_pos rfl]; exact hb F ρ σ H1 P Q (p1 rfl) s1 q
    | false => rw [if_neg Bool.false_ne_true]; exact q _ _ _ (p2 rfl) s1 (.bl false)⟩
theorem snd_orV (ha : SndE ta wa) (hb : SndE tb wb) : SndE (tOrV ta tb) (wOrV wa wb) := fun F ρ σ H P Q hw s q =>
  ha F ρ σ H _ _ hw s fun v d H1 ⟨b, e, p1, p2⟩ s1 d1 => ⟨b, by subst e; exact d1.boolI, by
    cases b with
    | true => rw [if_pos rfl]; exact q _ _ _ (p1 rfl) s1 (.bl true)
    | false => rw [if_neg Bool.false_ne_true]; exact hb F ρ σ H1 P Q (p2 rfl) s1 q⟩
theorem snd_notV (ha : SndE ta wa) : SndE (tNotV ta) (wNotV wa) := fun F ρ σ H P Q hw s q =>
  ha F ρ σ H _ _ hw s fun v d H1 ⟨b, e, p1⟩ s1 d1 => ⟨b, by subst e; exact d1.boolI, q _ _ _ p1 s1 (.bl _)⟩
theorem snd_chain (hr : SndR r w) (hr' : SndR r' w') (ha : SndE ta wa) (hb : SndE tb wb) (hc : SndE tc wc) : SndE (tChain r r' ta tb tc) (wChain w w' wa wb wc) := fun F ρ σ H P Q hw s q =>
  ha F ρ σ H _ _ hw s fun v d H1 p1 s1 d1 => hb (F.pin v d) ρ σ H1 _ _ p1 (s1.pin d1) fun u e H2 p2 s2 d2 =>
    hr _ H2 v u d e _ _ p2 s2.al s2.pinned d2 fun z f H3 ⟨k, ek, p3, p4⟩ e3 d3 => ⟨k, by subst ek; exact d3.boolI, by
      have s3 : St8 F ρ σ H3 := s2.unpin.keep e3
      cases k with
      | true =>
        rw [if_pos rfl]
        refine hc (F.pin u e) ρ σ H3 _ _ (p3 rfl) (s3.pin (Dt.mono (mask_ext fun a o _ h => e3 a o h) _ _ d2)) fun x g H4 p5 s4 d4 => ?_
        exact hr' _ H4 u x e g P Q p5 s4.al s4.pinned d4 fun z f H5 p6 e6 d6 => q z f H5 p6 (s4.unpin.keep e6) d6
      | false => rw [if_neg Bool.false_ne_true]; exact q _ _ _ (p4 rfl) s3 (.bl false)⟩
theorem snd_isN (ha : SndE ta wa) : SndE (tIsN ta) (wIsN wa) := fun F ρ σ H P Q hw s q =>
  ha F ρ σ H _ _ hw s fun v d H1 p1 s1 d1 => by rw [d1.nonI]; exact q _ _ _ p1 s1 (.bl _)
theorem snd_notN (ha : SndE ta wa) : SndE (tNotN ta) (wNotN wa) := fun F ρ σ H P Q hw s q =>
  ha F ρ σ H _ _ hw s fun v d H1 p1 s1 d1 => by rw [d1.nonI]; exact q _ _ _ p1 s1 (.bl _)
/-! ### slices' parts -/
def wNoPart : WO := fun _ P => P none
def wPart (we : WE) : WO := fun ρ P => we ρ fun d => ∃ i, d = .int i ∧ P (some i)
theorem snd_noPart : SndO tNoPart wNoPart := fun F ρ σ H P Q hw s q => q _ _ hw s
theorem snd_part (h : SndE ta wa) : SndO (tPart ta) (wPart wa) := fun F ρ σ H P Q hw s q =>
  h F ρ σ H _ _ hw s fun v d H1 ⟨i, e, p1⟩ s1 d1 => ⟨i, by subst e; exact d1.intI, q _ _ p1 s1⟩
def cutD (ds : List PyData) (lo hi : Option Int) : List PyData := (ds.drop (HT.sIx ds.length 0 lo)).take (HT.sIx ds.length ds.length hi - HT.sIx ds.length 0 lo)
theorem Dts.cut {H : Hp} {xs : List V} {ds : List PyData} (h : Dts H xs ds) (lo hi : Option Int) : Dts H (cutV xs lo hi) (cutD ds lo hi) := by
  unfold cutV cutD
  rw [h.length]
  exact Dts.take _ (Dts.drop _ h)
theorem cutD_all {ds : List PyData} {lo hi : Option Int} (h1 : HT.sIx ds.length 0 lo = 0) (h2 : HT.sIx ds.length ds.length hi = ds.length) : cutD ds lo hi = ds := by
  unfold cutD
  rw [h1, h2]; simp
def wSl (we : WE) (wl wh : WO) : WE := fun ρ P => we ρ fun d => wl ρ fun lo => wh ρ fun hi => (∃ ds, d = .tuple ds ∧ P (.tuple (cutD ds lo hi))) ∨ ∃ ds, d = .list ds ∧ P (.list (cutD ds lo hi))
def rSlB (K : PySem.W.Frag) : V → Option Int → Option Int → Hp → VK → Prop := fun x lo hi H Q => rSlA K x lo hi H Q ∨ rSlL K x lo hi H Q
theorem sl_both {X : Cx} : L2.SlR X (rSlB X.K) := L2.SlR.or sl_tupA sl_list
theorem snd_sl {tl th : TO} {wl wh : WO} (ha : SndE ta wa) (hl : SndO tl wl) (hh : SndO th wh) : SndE (L2.tSl (rSlB K) ta tl th) (wSl wa wl wh) := fun F ρ σ H P Q hw s q =>
  ha F ρ σ H _ _ hw s fun v d H1 p1 s1 d1 => hl (F.pin v d) ρ σ H1 _ _ p1 (s1.pin d1) fun lo H2 p2 s2 => hh (F.pin v d) ρ σ H2 _ _ p2 s2 fun hi H3 p3 s3 => by
    have s4 := s3.unpin
    have d3 : Dt (mask (M8 F σ ρ) H3) v d := s3.pinned
    rcases p3 with ⟨ds, e, p3⟩ | ⟨ds, e, p3⟩
    · subst e
      cases d3 with
      | tup h1 h2 =>
        rename_i a xs
        left
        refine ⟨a, xs, rfl, SqT.of (mask_sub _ _ h1), fun ⟨z1, z2⟩ => ?_, fun _ p hp => ?_⟩
        · rw [h2.length] at z1 z2
          rw [cutD_all z1 z2] at p3
          exact q _ _ _ p3 s4 (.tup h1 h2)
        · exact q _ _ _ p3 (s4.keep (ext_new hp)) (dt_tup s4.al hp (h2.cut lo hi))
    · subst e
      cases d3 with
      | lst h1 h2 =>
        rename_i a xs
        right
        exact ⟨a, xs, rfl, SqL.of (mask_sub _ _ h1), fun p hp => q _ _ _ p3 (s4.keep (ext_new hp)) (dt_lst s4.al hp (h2.cut lo hi))⟩
end

/-! ### operations -/
section
variable {K : PySem.W.Frag}
def wEqD : W2 := fun d e P => SeqAt.shaped d = true ∧ SeqAt.shaped e = true ∧ P (.bool (PyData.eqv d e))
def wNeD : W2 := fun d e P => SeqAt.shaped d = true ∧ SeqAt.shaped e = true ∧ P (.bool (!PyData.eqv d e))
theorem r_eq : SndR (rEqD K) wEqD := fun m H x y d e P Q hw al hx hy q => ⟨d, e, (Dt.mono mask_sub _ _ hx).dp, (Dt.mono mask_sub _ _ hy).dp, hw.1, hw.2.1, q _ _ H hw.2.2 (ext_rfl H) (.bl _)⟩
theorem r_ne : SndR (rNeD K) wNeD := fun m H x y d e P Q hw al hx hy q => ⟨d, e, (Dt.mono mask_sub _ _ hx).dp, (Dt.mono mask_sub _ _ hy).dp, hw.1, hw.2.1, q _ _ H hw.2.2 (ext_rfl H) (.bl _)⟩
def wI (C : Int → Int → Prop) (g : Int → Int → PyData) : W2 := fun x y P => ∃ i j, x = .int i ∧ y = .int j ∧ C i j ∧ P (g i j)
theorem r_I {C : Int → Int → Prop} {g : Int → Int → Int} : SndR (rI C fun i j => .int (g i j)) (wI C fun i j => .int (g i j)) := fun m H x y d e P Q ⟨i, j, e1, e2, c, p⟩ al hx hy q => by
  subst e1 e2; cases hx; cases hy
  exact ⟨i, j, rfl, rfl, c, q _ _ H p (ext_rfl H) (.int _)⟩
theorem r_I0 {g : Int → Int → Int} : SndR (rI0 fun i j => .int (g i j)) (wI (fun _ _ => True) fun i j => .int (g i j)) := fun m H x y d e P Q ⟨i, j, e1, e2, c, p⟩ al hx hy q => by
  subst e1 e2; cases hx; cases hy
  exact ⟨i, j, rfl, rfl, q _ _ H p (ext_rfl H) (.int _)⟩
theorem r_B0 {g : Int → Int → Bool} : SndR (rI0 fun i j => .bl (g i j)) (wI (fun _ _ => True) fun i j => .bool (g i j)) := fun m H x y d e P Q ⟨i, j, e1, e2, c, p⟩ al hx hy q => by
  subst e1 e2; cases hx; cases hy
  exact ⟨i, j, rfl, rfl, q _ _ H p (ext_rfl H) (.bl _)⟩
def rIx8 (K : PySem.W.Frag) : R2 := fun x y H Q => rIxL K x y H Q ∨ rIxT K x y H Q
theorem ix_8 {X : Cx} : L2.IxR X (rIx8 X.K) := L2.IxR.or ix_list ix_tup
def wIx : W2 := fun x y P => ∃ ds i d, (x = .list ds ∨ x = .tuple ds) ∧ y = .int i ∧ atI ds i = some d ∧ P d
theorem Dts.atI {H : Hp} {xs : List V} {ds : List PyData} {i : Int} {d : PyData} (h : Dts H xs ds) (e : L2.atI ds i = some d) : ∃ v, L2.atI xs i = some v ∧ Dt H v d := by
  unfold L2.atI at e ⊢
  rw [h.length]
  cases q : ixN ds.length i with
  | none => rw [q] at e; cases e
  | some j =>
    rw [q] at e
    obtain ⟨v, h1, h2⟩ := h.get (i := j) (d := d) e
    exact ⟨v, h1, h2⟩
theorem r_ix : SndR (rIx8 K) wIx := fun m H x y d e P Q ⟨ds, i, f, e1, e2, e3, p⟩ al hx hy q => by
  subst e2; cases hy
  rcases e1 with e1 | e1
  · subst e1
    cases hx with
    | lst h1 h2 =>
      obtain ⟨v, h3, h4⟩ := h2.atI e3
      exact .inl ⟨_, _, i, v, rfl, rfl, SqL.of (mask_sub _ _ h1), h3, q _ _ H p (ext_rfl H) h4⟩
  · subst e1
    cases hx with
    | tup h1 h2 =>
      obtain ⟨v, h3, h4⟩ := h2.atI e3
      exact .inr ⟨_, _, i, v, rfl, rfl, SqT.of (mask_sub _ _ h1), h3, q _ _ H p (ext_rfl H) h4⟩
def wInD : W2 := fun x y P => ∃ ds, y = .list ds ∧ SeqAt.shaped x = true ∧ SeqAt.shaped (.list ds) = true ∧ P (.bool (ds.any fun z => PyData.eqv z x))
def wNotInD : W2 := fun x y P => ∃ ds, y = .list ds ∧ SeqAt.shaped x = true ∧ SeqAt.shaped (.list ds) = true ∧ P (.bool (!ds.any fun z => PyData.eqv z x))
theorem r_in : SndR (rInD K) wInD := fun m H x y d e P Q ⟨ds, e1, h1, h2, p⟩ al hx hy q => by
  subst e1
  exact ⟨d, ds, (Dt.mono mask_sub _ _ hx).dp, (Dt.mono mask_sub _ _ hy).dp, h1, h2, q _ _ H p (ext_rfl H) (.bl _)⟩
theorem r_notIn : SndR (rNotInD K) wNotInD := fun m H x y d e P Q ⟨ds, e1, h1, h2, p⟩ al hx hy q => by
  subst e1
  exact ⟨d, ds, (Dt.mono mask_sub _ _ hx).dp, (Dt.mono mask_sub _ _ hy).dp, h1, h2, q _ _ H p (ext_rfl H) (.bl _)⟩
def wCatT : W2 := fun x y P => ∃ xs ys, x = .tuple xs ∧ y = .tuple ys ∧ xs ≠ [] ∧ xs.length + ys.length ≤ sizeLine ∧ P (.tuple (xs ++ ys))
theorem r_catT : SndR (rCatT K) wCatT := fun m H x y d e P Q ⟨xs, ys, e1, e2, n, l, p⟩ al hx hy q => by
  subst e1 e2
  cases hx with
  | tup h1 h2 =>
    cases hy with
    | tup h3 h4 =>
      rename_i a us b vs
      refine ⟨a, b, us, vs, rfl, rfl, SqT.of (mask_sub _ _ h1), SqT.of (mask_sub _ _ h3), fun z => ?_, by rw [h2.length, h4.length]; exact l, fun z => ?_, fun _ t ht => ?_⟩
      · subst z; cases h2; exact n rfl
      · subst z; cases h4; rw [List.append_nil] at p; exact q _ _ H p (ext_rfl H) (.tup h1 h2)
      · exact q _ _ _ p (ext_new ht) (dt_tup al ht (h2.append h4))
def wCat : W2 := fun x y P => ∃ xs ys, x = .list xs ∧ y = .list ys ∧ xs.length + ys.length ≤ sizeLine ∧ P (.list (xs ++ ys))
theorem r_cat : SndR rCat wCat := fun m H x y d e P Q ⟨xs, ys, e1, e2, l, p⟩ al hx hy q => by
  subst e1 e2
  cases hx with
  | lst h1 h2 =>
    cases hy with
    | lst h3 h4 => exact ⟨_, _, _, _, rfl, rfl, mask_sub _ _ h1, mask_sub _ _ h3, by rw [h2.length, h4.length]; exact l, fun t ht => q _ _ _ p (ext_new ht) (dt_lst al ht (h2.append h4))⟩
def wRep : W2 := fun x y P => ∃ d k, x = .list [d] ∧ y = .int k ∧ 0 ≤ k ∧ k ≤ 1000 ∧ P (.list (List.replicate k.toNat d))
theorem rep_one {α : Type} (x : α) : ∀ n : Nat, (List.replicate n [x]).flatten = List.replicate n x
  | 0 => rfl
  | n + 1 => by rw [List.replicate_succ, List.replicate_succ, List.flatten_cons, rep_one x n] <;> rfl
theorem r_rep : SndR rRep wRep := fun m H x y d e P Q ⟨f, k, e1, e2, l1, l2, p⟩ al hx hy q => by
  subst e1 e2
  cases hy
  cases hx with
  | lst h1 h2 =>
    cases h2 with
    | cons h3 h4 =>
      cases h4
      refine ⟨_, k, _, rfl, rfl, mask_sub _ _ h1, by omega, by omega, ?_, fun t ht => ?_⟩
      · rw [List.length_singleton, sizeLine_eq]; omega
      · rw [rep_one]
        exact q _ _ _ p (ext_new ht) (dt_lst al ht (Dts.repl h3 _))
def wNeg : PyData → (PyData → Prop) → Prop := fun x P => ∃ i, x = .int i ∧ P (.int (-i))
theorem snd_neg {ta : TE} {wa : WE} (ha : SndE ta wa) : SndE (tUn (rU fun i => .int (-i)) ta) (wUn wNeg wa) := fun F ρ σ H P Q hw s q =>
  ha F ρ σ H _ _ hw s fun v d H1 ⟨i, e, p1⟩ s1 d1 => ⟨i, by subst e; exact d1.intI, q _ _ _ p1 s1 (.int _)⟩

/-! ### calls of built-ins -/
def wLen : WC := fun ds P => ∃ es, (ds = [.list es] ∨ ds = [.tuple es]) ∧ P (.int es.length)
def rLen8 (K : PySem.W.Frag) : List V → Hp → VK → Prop := fun xs H Q => ∃ p ys, xs = [.ref p] ∧ (SqL K H p ys ∨ SqT K H p ys) ∧ Q (.int ys.length) H
theorem c_len : SndC (rLen8 K) wLen := fun m H xs ds P Q ⟨es, e, p⟩ al hx q => by
  rcases e with e | e
  · subst e
    cases hx with
    | cons h1 h2 =>
      cases h2
      cases h1 with
      | lst h3 h4 => exact ⟨_, _, rfl, .inl (SqL.of (mask_sub _ _ h3)), by rw [h4.length]; exact q _ _ H p (ext_rfl H) (.int _)⟩
  · subst e
    cases hx with
    | cons h1 h2 =>
      cases h2
      cases h1 with
      | tup h3 h4 => exact ⟨_, _, rfl, .inr (SqT.of (mask_sub _ _ h3)), by rw [h4.length]; exact q _ _ H p (ext_rfl H) (.int _)⟩
def wMax2 : WC := fun ds P => ∃ i j, ds = [.int i, .int j] ∧ P (.int (if j > i then j else i))
def wMin2 : WC := fun ds P => ∃ i j, ds = [.int i, .int j] ∧ P (.int (if j < i then j else i))
def rMax8 : List V → Hp → VK → Prop := fun xs H Q => ∃ i j, xs = [.int i, .int j] ∧ Q (.int (if j > i then j else i)) H
def rMin8 : List V → Hp → VK → Prop := fun xs H Q => ∃ i j, xs = [.int i, .int j] ∧ Q (.int (if j < i then j else i)) H
theorem two_ints {m : Addr → Prop} {H : Hp} {xs : List V} {i j : Int} (h : Dts (mask m H) xs [.int i, .int j]) : xs = [.int i, .int j] := dts_ints (ns := [i, j]) h
theorem c_max2 : SndC rMax8 wMax2 := fun m H xs ds P Q ⟨i, j, e, p⟩ al hx q => by
  subst e; exact ⟨i, j, two_ints hx, q _ _ H p (ext_rfl H) (.int _)⟩
theorem c_min2 : SndC rMin8 wMin2 := fun m H xs ds P Q ⟨i, j, e, p⟩ al hx q => by
  subst e; exact ⟨i, j, two_ints hx, q _ _ H p (ext_rfl H) (.int _)⟩
theorem one_list {m : Addr → Prop} {H : Hp} {xs : List V} {ds : List PyData} (h : Dts (mask m H) xs [.list ds]) : ∃ a us, xs = [.ref a] ∧ H a = some (.lst us) ∧ Dts (mask m H) us ds := by
  cases h with
  | cons h1 h2 =>
    cases h2
    cases h1 with
    | lst h3 h4 => exact ⟨_, _, rfl, mask_sub _ _ h3, h4⟩
theorem one_tup {m : Addr → Prop} {H : Hp} {xs : List V} {ds : List PyData} (h : Dts (mask m H) xs [.tuple ds]) : ∃ a us, xs = [.ref a] ∧ H a = some (.tup us) ∧ Dts (mask m H) us ds := by
  cases h with
  | cons h1 h2 =>
    cases h2
    cases h1 with
    | tup h3 h4 => exact ⟨_, _, rfl, mask_sub _ _ h3, h4⟩
def wMaxL : WC := fun ds P => ∃ ns : List Int, ds = [.list (ns.map .int)] ∧ 0 < ns.length ∧ ∀ k, k ∈ ns → (∀ y, y ∈ ns → y ≤ k) → P (.int k)
def wMinL : WC := fun ds P => ∃ ns : List Int, ds = [.list (ns.map .int)] ∧ 0 < ns.length ∧ ∀ k, k ∈ ns → (∀ y, y ∈ ns → k ≤ y) → P (.int k)
theorem c_maxL : SndC (rMax K) wMaxL := fun m H xs ds P Q ⟨ns, e, l, p⟩ al hx q => by
  subst e
  obtain ⟨a, us, e1, e2, e3⟩ := one_list hx
  have e4 := dts_ints e3
  subst e4
  exact ⟨a, ns, e1, SqL.of e2, l, fun k h1 h2 => q _ _ H (p k h1 h2) (ext_rfl H) (.int _)⟩
theorem c_minL : SndC (rMin K) wMinL := fun m H xs ds P Q ⟨ns, e, l, p⟩ al hx q => by
  subst e
  obtain ⟨a, us, e1, e2, e3⟩ := one_list hx
  have e4 := dts_ints e3
  subst e4
  exact ⟨a, ns, e1, SqL.of e2, l, fun k h1 h2 => q _ _ H (p k h1 h2) (ext_rfl H) (.int _)⟩
def wAll : WC := fun ds P => ∃ bs : List Bool, ds = [.list (bs.map .bool)] ∧ P (.bool (bs.all id))
def wAny : WC := fun ds P => ∃ bs : List Bool, ds = [.list (bs.map .bool)] ∧ P (.bool (bs.any id))
theorem c_all : SndC (rAll K) wAll := fun m H xs ds P Q ⟨ns, e, p⟩ al hx q => by
  subst e
  obtain ⟨a, us, e1, e2, e3⟩ := one_list hx
  have e4 := dts_bools e3
  subst e4
  exact ⟨a, ns, e1, SqL.of e2, q _ _ H p (ext_rfl H) (.bl _)⟩
theorem c_any : SndC (rAny K) wAny := fun m H xs ds P Q ⟨ns, e, p⟩ al hx q => by
  subst e
  obtain ⟨a, us, e1, e2, e3⟩ := one_list hx
  have e4 := dts_bools e3
  subst e4
  exact ⟨a, ns, e1, SqL.of e2, q _ _ H p (ext_rfl H) (.bl _)⟩
/-- tuple(a list), list(a tuple or list) -/
def rTupOf (K : PySem.W.Frag) : List V → Hp → VK → Prop := fun xs H Q => ∃ p ys, xs = [.ref p] ∧ ((SqL K H p ys ∧ ∀ l, H l = none → Q (.ref l) (upd H l (.tup ys))) ∨ (SqT K H p ys ∧ Q (.ref p) H))
def wTupOf : WC := fun ds P => ∃ es, ds = [.list es] ∧ P (.tuple es)
theorem c_tupOf : SndC (rTupOf K) wTupOf := fun m H xs ds P Q ⟨es, e, p⟩ al hx q => by
  subst e
  obtain ⟨a, us, e1, e2, e3⟩ := one_list hx
  exact ⟨a, us, e1, .inl ⟨SqL.of e2, fun l hl => q _ _ _ p (ext_new hl) (dt_tup al hl e3)⟩⟩
def rListOf (K : PySem.W.Frag) : List V → Hp → VK → Prop := fun xs H Q => ∃ p ys, xs = [.ref p] ∧ (SqL K H p ys ∨ SqT K H p ys) ∧ ∀ l, H l = none → Q (.ref l) (upd H l (.lst ys))
def wListOf : WC := fun ds P => ∃ es, ds = [.tuple es] ∧ P (.list es)
theorem c_listOf : SndC (rListOf K) wListOf := fun m H xs ds P Q ⟨es, e, p⟩ al hx q => by
  subst e
  obtain ⟨a, us, e1, e2, e3⟩ := one_tup hx
  exact ⟨a, us, e1, .inr (SqT.of e2), fun l hl => q _ _ _ p (ext_new hl) (dt_lst al hl e3)⟩
def rInt8 : List V → Hp → VK → Prop := fun xs H Q => (∃ i, xs = [.int i] ∧ Q (.int i) H) ∨ ∃ k, xs = [.bl k] ∧ Q (.int (if k then 1 else 0)) H
def wInt1 : WC := fun ds P => (∃ i, ds = [.int i] ∧ P (.int i)) ∨ ∃ k, ds = [.bool k] ∧ P (.int (if k then 1 else 0))
theorem c_int1 : SndC rInt8 wInt1 := fun m H xs ds P Q hw al hx q => by
  rcases hw with ⟨i, e, p⟩ | ⟨i, e, p⟩
  · subst e; exact .inl ⟨i, dts_ints (ns := [i]) hx, q _ _ H p (ext_rfl H) (.int _)⟩
  · subst e; exact .inr ⟨i, dts_bools (ns := [i]) hx, q _ _ H p (ext_rfl H) (.int _)⟩
def wSortS : WC := fun ds P => ∃ xs : List Str, ds = [.list (xs.map .str)] ∧ xs.length < 64 ∧ ∀ ys : List Str, ys.Perm xs → sortedS ys = true → P (.list (ys.map .str))
theorem c_sortS : SndC (rSortedS K) wSortS := fun m H xs ds P Q ⟨ns, e, l, p⟩ al hx q => by
  subst e
  obtain ⟨a, us, e1, e2, e3⟩ := one_list hx
  have e4 := dts_strs e3
  subst e4
  exact ⟨a, ns, e1, SqL.of e2, l, fun ys t h1 h2 h3 => q _ _ _ (p ys h1 h2) (ext_new h3) (dt_lst al h3 (strs_dts ys))⟩
/-- list(range(a, b)) -/
def rgD (a b : Int) : List PyData := (List.range (b - a).toNat).map fun i => PyData.int (a + (i : Nat))
theorem rg_dts {H : Hp} (a b : Int) : Dts H (rgV a b) (rgD a b) := by
  unfold rgV rgD
  generalize List.range (b - a).toNat = l
  induction l with
  | nil => exact .nil
  | cons x l ih => exact .cons (.int _) ih
def wLstRg (wa wb : WE) : WE := fun ρ P => wa ρ fun x => wb ρ fun y => ∃ i j, x = .int i ∧ y = .int j ∧ RgOk i j ∧ P (.list (rgD i j))
theorem snd_lstRg {ta tb : TE} {wa wb : WE} (ha : SndE ta wa) (hb : SndE tb wb) : SndE (tLstRg (tRg2 ta tb)) (wLstRg wa wb) := fun F ρ σ H P Q hw s q =>
  ha F ρ σ H _ _ hw s fun v d H1 p1 s1 d1 => hb (F.pin v d) ρ σ H1 _ _ p1 (s1.pin d1) fun u e H2 ⟨i, j, e1, e2, ok, p2⟩ s2 d2 => by
    subst e1 e2
    have z : Dt (mask (M8 F σ ρ) H2) v (.int i) := s2.pinned
    exact ⟨i, j, z.intI, d2.intI, ok, fun l hl => q _ _ _ p2 (s2.unpin.keep (ext_new hl)) (dt_lst s2.unpin.al hl (rg_dts i j))⟩
end
end D8
/-! D8: rules of the data layer: statements, loops, comprehensions, calls. -/
namespace D8
open PySem PySem.Spec PyProof.Rows L2

/-! ### more about states -/
section
variable {F : Fr8} {ρ ρ' : List Sl} {σ σ' : L2.St} {H H' : Hp}
abbrev Fr8.pinAll (F : Fr8) (vs : List V) (ds : List PyData) : Fr8 := { F with pins := vs.zip ds ++ F.pins }
theorem dts_zip {G : Hp} : ∀ {vs : List V} {ds : List PyData}, Dts G vs ds → ∀ p ∈ vs.zip ds, Dt G p.1 p.2
  | _, _, .nil, p, hp => by simp at hp
  | _, _, .cons h1 h2, p, hp => by
    rw [List.zip_cons_cons] at hp
    rcases List.mem_cons.mp hp with e | hp
    · rw [e]; exact h1
    · exact dts_zip h2 p hp
theorem zip_dts {G : Hp} : ∀ {vs : List V} {ds : List PyData}, vs.length = ds.length → (∀ p ∈ vs.zip ds, Dt G p.1 p.2) → Dts G vs ds
  | [], [], _, _ => .nil
  | [], _ :: _, h, _ => by simp at h
  | _ :: _, [], h, _ => by simp at h
  | v :: vs, d :: ds, h, q => .cons (q (v, d) (by rw [List.zip_cons_cons]; exact List.mem_cons_self)) (zip_dts (by simpa using h) fun p hp => q p (by rw [List.zip_cons_cons]; exact List.mem_cons_of_mem _ hp))
theorem St8.pinAll (s : St8 F ρ σ H) {vs : List V} {ds : List PyData} (h : Dts (mask (M8 F σ ρ) H) vs ds) : St8 (F.pinAll vs ds) ρ σ H :=
  ⟨s.len, s.src, s.fz, s.sep1, s.sep2, s.sep3, s.fo, s.ex, s.dat, s.own, s.hp, fun p hp => by
    rcases List.mem_append.mp hp with hp | hp
    · exact dts_zip h p hp
    · exact s.pins p hp⟩
theorem St8.unpinAll {vs : List V} {ds : List PyData} (s : St8 (F.pinAll vs ds) ρ σ H) : St8 F ρ σ H :=
  ⟨s.len, s.src, s.fz, s.sep1, s.sep2, s.sep3, s.fo, s.ex, s.dat, s.own, s.hp, fun p hp => s.pins p (List.mem_append_right _ hp)⟩
theorem St8.pinnedAll {vs : List V} {ds : List PyData} (s : St8 (F.pinAll vs ds) ρ σ H) (hl : vs.length = ds.length) : Dts (mask (M8 F σ ρ) H) vs ds :=
  zip_dts hl fun p hp => s.pins p (List.mem_append_left _ hp)
theorem set_mask {i : Nat} {v : V} {d : PyData} : Ext8 (mask (M8 F σ ρ) H) (mask (M8 F (σ.set i (some v)) (ρ.set i (.dat d))) H) := mask_less fun a z => by
  rcases z with ⟨j, ds, e1, e2⟩ | z
  · rcases set_get e1 with ⟨rfl, e⟩ | ⟨n1, n2⟩
    · cases e
    · exact .inl ⟨j, ds, n2, by rw [List.getElem?_set_ne (Ne.symm n1)] at e2; exact e2⟩
  · exact .inr z
/-- a list under construction is done -/
theorem St8.freeze (s : St8 F ρ σ H) {i : Nat} {ds : List PyData} (h : ρ[i]? = some (.own (.lst ds))) : St8 F (ρ.set i (.dat (.list ds))) σ H := by
  obtain ⟨l, _, h1, h2, vs, rfl, h3⟩ := s.own i _ h
  have hi : i < ρ.length := (List.getElem?_eq_some_iff.mp h).1
  have s1 : St8 F (ρ.set i .un) σ H := s.less (by simp [s.len]) fun j x e n => by
    rcases set_get e with ⟨rfl, rfl⟩ | ⟨e1, e2⟩
    · exact absurd rfl n
    · exact ⟨e2, rfl⟩
  have nM : ¬ M8 F σ (ρ.set i .un) l := fun z => by
    rcases z with ⟨j, es, e1, e2⟩ | z | z
    · rcases set_get e1 with ⟨_, e⟩ | ⟨n1, n2⟩
      · cases e
      · exact n1 (s.sep3 j i l es _ n2 h e2 h1)
    · exact (s.sep1 l ⟨i, _, h, h1⟩).1 z
    · exact z (s.sep1 l ⟨i, _, h, h1⟩).2
  have me : Ext8 (mask (M8 F σ ρ) H) (mask (M8 F σ (ρ.set i .un)) H) := mask_less fun a z => by
    rcases z with ⟨j, es, e1, e2⟩ | z
    · rcases set_get e1 with ⟨_, e⟩ | ⟨n1, n2⟩
      · cases e
      · exact .inl ⟨j, es, n2, e2⟩
    · exact .inr z
  have q := s1.set (i := i) (v := .ref l) (d := .list ds) (.lst (mask_at h2 nM) (Dts.mono me _ _ h3))
  have e1 : (ρ.set i .un).set i (.dat (.list ds)) = ρ.set i (.dat (.list ds)) := List.set_set _
  have e2 : σ.set i (some (.ref l)) = σ := by
    refine List.ext_getElem? fun j => ?_
    by_cases e : i = j
    · subst e; rw [List.getElem?_set_self (by rw [s.len]; exact hi)]; exact h1.symm
    · rw [List.getElem?_set_ne e]
  rw [e1, e2] at q
  exact q
/-- a masked new list becomes a slot's own -/
theorem St8.adopt {a : Addr} {vs : HO} {ds : Ow} (s : St8 (F.frz a vs) ρ σ H) (hd : OwOk (mask (M8 (F.frz a vs) σ ρ) H) vs ds) (h0 : F.H0 a = none) (hm : ¬ M8 F σ ρ a) {i : Nat} (hi : i < ρ.length) :
    St8 F (ρ.set i (.own ds)) (σ.set i (some (.ref a))) H := by
  have nm : F.m a = none := by
    cases q : F.m a with
    | none => rfl
    | some u => exact absurd (.inr (.inr (by rw [q]; exact nofun))) hm
  have fa : (F.frz a vs).m a = some vs := upd_same
  have ha : H a = some vs := s.fz a _ fa
  have no : ∀ b, (F.frz a vs).m b = none → b ≠ a ∧ F.m b = none := fun b h => by
    have h' : upd F.m a vs b = none := h
    by_cases e : b = a
    · subst e; rw [upd_same] at h'; cases h'
    · rw [upd_ne e] at h'; exact ⟨e, h'⟩
  have oa : ∀ {j : Nat} {es : Ow} {b : Addr}, (ρ.set i (.own ds))[j]? = some (.own es) → (σ.set i (some (.ref a)))[j]? = some (some (.ref b)) → (j = i ∧ es = ds ∧ b = a) ∨ (j ≠ i ∧ ρ[j]? = some (.own es) ∧ σ[j]? = some (some (.ref b))) := fun {j es b} e1 e2 => by
    rcases set_get e1 with ⟨rfl, e⟩ | ⟨n1, n2⟩
    · left
      rcases set_get e2 with ⟨_, e'⟩ | ⟨n, _⟩
      · cases e; cases e'; exact ⟨rfl, rfl, rfl⟩
      · exact absurd rfl n
    · right
      rw [List.getElem?_set_ne (Ne.symm n1)] at e2; exact ⟨n1, n2, e2⟩
  have me : Ext8 (mask (M8 (F.frz a vs) σ ρ) H) (mask (M8 F (σ.set i (some (.ref a))) (ρ.set i (.own ds))) H) := mask_less fun b z => by
    rcases z with ⟨j, es, e1, e2⟩ | z | z
    · rcases oa e1 e2 with ⟨_, _, e⟩ | ⟨_, e1, e2⟩
      · subst e; exact .inr (.inr (by rw [fa]; exact nofun))
      · exact .inl ⟨j, es, e1, e2⟩
    · exact .inr (.inl z)
    · refine .inr (.inr ?_)
      show upd F.m a vs b ≠ none
      by_cases e : b = a
      · subst e; rw [upd_same]; exact nofun
      · rw [upd_ne e]; exact z
  have own1 : ∀ b, OwnsAt (σ.set i (some (.ref a))) (ρ.set i (.own ds)) b → b = a ∨ OwnsAt σ ρ b := fun b ⟨j, es, e1, e2⟩ => by
    rcases oa e1 e2 with ⟨_, _, e⟩ | ⟨_, e1, e2⟩
    · exact .inl e
    · exact .inr ⟨j, es, e1, e2⟩
  refine ⟨by simp [s.len], s.src, fun b o h => s.fz b o ?_, fun b z => ?_, fun b z => (no b (s.sep2 b z)).2, fun j k b dj dk h1 h2 h3 h4 => ?_, fun b z => ?_, s.ex, fun j e he => ?_, fun j es he => ?_, fun j he => ?_, fun p hp => Dt.mono me _ _ (s.pins p hp)⟩
  · show upd F.m a vs b = some o
    by_cases e : b = a
    · rw [e, nm] at h; cases h
    · rw [upd_ne e]; exact h
  · rcases own1 b z with e | z
    · subst e; exact ⟨fun z => hm (.inr (.inl z)), nm⟩
    · exact ⟨(s.sep1 b z).1, (no b (s.sep1 b z).2).2⟩
  · rcases oa h1 h3 with ⟨e1, _, e2⟩ | ⟨n1, e1, e2⟩
    · rcases oa h2 h4 with ⟨e3, _, _⟩ | ⟨_, e3, e4⟩
      · rw [e1, e3]
      · subst e2; exact absurd rfl (no _ (s.sep1 _ ⟨k, dk, e3, e4⟩).2).1
    · rcases oa h2 h4 with ⟨_, _, e4⟩ | ⟨_, e3, e4⟩
      · subst e4; exact absurd rfl (no _ (s.sep1 _ ⟨j, dj, e1, e2⟩).2).1
      · exact s.sep3 j k b dj dk e1 e3 e2 e4
  · rcases own1 b z with e | z
    · subst e; exact h0
    · exact s.fo b z
  · rcases set_get he with ⟨rfl, e⟩ | ⟨n1, n2⟩
    · cases e
    · obtain ⟨v, h1, h2⟩ := s.dat j e n2
      exact ⟨v, by rw [List.getElem?_set_ne (Ne.symm n1)]; exact h1, Dt.mono me _ _ h2⟩
  · rcases set_get he with ⟨rfl, e⟩ | ⟨n1, n2⟩
    · cases e
      exact ⟨a, vs, List.getElem?_set_self (by rw [s.len]; exact hi), ha, hd.mono me⟩
    · obtain ⟨l, us, h1, h2, h3⟩ := s.own j es n2
      exact ⟨l, us, by rw [List.getElem?_set_ne (Ne.symm n1)]; exact h1, h2, h3.mono me⟩
  · rcases set_get he with ⟨rfl, e⟩ | ⟨n1, n2⟩
    · cases e
    · obtain ⟨x, y, h1, h2⟩ := s.hp j n2
      exact ⟨x, y, h1, by rw [List.getElem?_set_ne (Ne.symm n1)]; exact h2⟩
/-- an own list changes -/
theorem St8.alter (s : St8 F ρ σ H) {i : Nat} {ds es : Ow} {l : Addr} {us : HO} (hi : ρ[i]? = some (.own ds)) (hl : σ[i]? = some (some (.ref l))) (hd : OwOk (mask (M8 F σ ρ) H) us es) :
    St8 F (ρ.set i (.own es)) σ (upd H l us) := by
  have ol : OwnsAt σ ρ l := ⟨i, ds, hi, hl⟩
  have oq : ∀ b, OwnsAt σ (ρ.set i (.own es)) b ↔ OwnsAt σ ρ b := fun b => by
    constructor
    · rintro ⟨j, x, e1, e2⟩
      rcases set_get e1 with ⟨rfl, _⟩ | ⟨_, n2⟩
      · exact ⟨j, ds, hi, e2⟩
      · exact ⟨j, x, n2, e2⟩
    · rintro ⟨j, x, e1, e2⟩
      by_cases e : j = i
      · subst e; exact ⟨j, es, List.getElem?_set_self (List.getElem?_eq_some_iff.mp hi).1, e2⟩
      · exact ⟨j, x, by rw [List.getElem?_set_ne (Ne.symm e)]; exact e1, e2⟩
  have mM : M8 F σ (ρ.set i (.own es)) = M8 F σ ρ := by
    funext b
    show (OwnsAt σ (ρ.set i (.own es)) b ∨ IsHp F.hp b ∨ F.m b ≠ none) = (OwnsAt σ ρ b ∨ IsHp F.hp b ∨ F.m b ≠ none)
    rw [propext (oq b)]
  have mk : mask (M8 F σ (ρ.set i (.own es))) (upd H l us) = mask (M8 F σ ρ) H := by
    rw [mM]
    funext b
    by_cases q : M8 F σ ρ b
    · rw [mask_in q, mask_in q]
    · rw [mask_out q, mask_out q, upd_ne (show b ≠ l from fun e => q (by rw [e]; exact .inl ol))]
  have nl : ∀ b, IsHp F.hp b ∨ F.m b ≠ none → b ≠ l := fun b z e => by
    subst e
    rcases z with z | z
    · exact (s.sep1 b ol).1 z
    · exact z (s.sep1 b ol).2
  refine ⟨by simp [s.len], fun x y e => ?_, fun b o h => ?_, fun b z => s.sep1 b ((oq b).mp z), s.sep2, fun j k b dj dk h1 h2 h3 h4 => ?_, fun b z => s.fo b ((oq b).mp z), fun b o n q => ?_, fun j d he => ?_, fun j xs he => ?_, fun j he => ?_, fun p hp => by rw [mk]; exact s.pins p hp⟩
  · obtain ⟨n, cells, st, h1, h2, h3⟩ := s.src x y e
    exact ⟨n, cells, st, by rw [upd_ne (nl x (.inl ⟨x, y, e, .inl rfl⟩))]; exact h1, by rw [upd_ne (nl y (.inl ⟨x, y, e, .inr rfl⟩))]; exact h2, h3⟩
  · rw [upd_ne (nl b (.inr (by rw [h]; exact nofun)))]; exact s.fz b o h
  · have g : ∀ {j : Nat} {dj : Ow}, (ρ.set i (.own es))[j]? = some (.own dj) → ∃ d', ρ[j]? = some (.own d') := fun {j dj} h => by
      rcases set_get h with ⟨rfl, _⟩ | ⟨_, n2⟩
      · exact ⟨ds, hi⟩
      · exact ⟨_, n2⟩
    obtain ⟨d1, g1⟩ := g h1
    obtain ⟨d2, g2⟩ := g h2
    exact s.sep3 j k b d1 d2 g1 g2 h3 h4
  · have nb : b ≠ l := fun e => by rw [e, s.fo l ol] at q; cases q
    rw [upd_ne nb]; exact s.ex b o n q
  · rcases set_get he with ⟨rfl, e⟩ | ⟨n1, n2⟩
    · cases e
    · obtain ⟨v, h1, h2⟩ := s.dat j d n2
      exact ⟨v, h1, by rw [mk]; exact h2⟩
  · rcases set_get he with ⟨rfl, e⟩ | ⟨n1, n2⟩
    · cases e
      exact ⟨l, us, hl, upd_same, by rw [mk]; exact hd⟩
    · obtain ⟨k, ws, h1, h2, h3⟩ := s.own j xs n2
      have nk : k ≠ l := fun e => n1 (s.sep3 j i l xs ds n2 hi (e ▸ h1) hl)
      exact ⟨k, ws, h1, by rw [upd_ne nk]; exact h2, by rw [mk]; exact h3⟩
  · rcases set_get he with ⟨rfl, e⟩ | ⟨n1, n2⟩
    · cases e
    · exact s.hp j n2
end

/-! ### statements -/
structure We8 where
  nx : List Sl → Prop
  rt : PyData → Prop
  bk : List Sl → Prop := fun _ => False
  ct : List Sl → Prop := fun _ => False
abbrev WS := We8 → List Sl → Prop
structure Ag (F : Fr8) (D : Ends) (E : We8) : Prop where
  nx : ∀ ρ σ H, E.nx ρ → St8 F ρ σ H → D.nx σ H
  rt : ∀ ρ σ H v d, E.rt d → St8 F ρ σ H → Dt (mask (M8 F σ ρ) H) v d → D.rt v H
  bk : ∀ ρ σ H, E.bk ρ → St8 F ρ σ H → D.bk σ H
  ct : ∀ ρ σ H, E.ct ρ → St8 F ρ σ H → D.ct σ H
def SndS (t : TS) (W : WS) : Prop := ∀ (F : Fr8) (ρ : List Sl) (σ : L2.St) (H : Hp) (D : Ends) (E : We8), W E ρ → St8 F ρ σ H → Ag F D E → t D σ H
abbrev WG := PyData → List Sl → (List Sl → Prop) → Prop
abbrev WGs := List PyData → List Sl → (List Sl → Prop) → Prop
def SndG (g : TG) (W : WG) : Prop := ∀ (F : Fr8) (ρ : List Sl) (σ : L2.St) (H : Hp) (v : V) (d : PyData) (P : List Sl → Prop) (Q : L2.St → Hp → Prop), W d ρ P → St8 F ρ σ H → Dt (mask (M8 F σ ρ) H) v d →
  (∀ ρ' σ', P ρ' → St8 F ρ' σ' H → Ext8 (mask (M8 F σ ρ) H) (mask (M8 F σ' ρ') H) → Q σ' H) → g v σ H Q
def SndGs (g : TGs) (W : WGs) : Prop := ∀ (F : Fr8) (ρ : List Sl) (σ : L2.St) (H : Hp) (vs : List V) (ds : List PyData) (P : List Sl → Prop) (Q : L2.St → Hp → Prop), W ds ρ P → St8 F ρ σ H → Dts (mask (M8 F σ ρ) H) vs ds →
  (∀ ρ' σ', P ρ' → St8 F ρ' σ' H → Ext8 (mask (M8 F σ ρ) H) (mask (M8 F σ' ρ') H) → Q σ' H) → g vs σ H Q
def wgName (i : Nat) : WG := fun d ρ P => P (ρ.set i (.dat d))
def wgNil : WGs := fun ds ρ P => ds = [] ∧ P ρ
def wgCons (a : WG) (b : WGs) : WGs := fun ds ρ P => ∃ d r, ds = d :: r ∧ a d ρ fun ρ' => b r ρ' P
def wgTup (n : Nat) (a : WGs) : WG := fun d ρ P => ∃ ds, d = .tuple ds ∧ ds.length = n ∧ a ds ρ P
theorem g_name (i : Nat) : SndG (gName i) (wgName i) := fun F ρ σ H v d P Q p s h q => q _ _ p (s.set h) set_mask
theorem g_nil : SndGs gNil wgNil := fun F ρ σ H vs ds P Q ⟨e, p⟩ s h q => by
  subst e; cases h; exact ⟨rfl, q ρ σ p s (ext_rfl _)⟩
theorem g_cons {g : TG} {gs : TGs} {a : WG} {b : WGs} (h1 : SndG g a) (h2 : SndGs gs b) : SndGs (gCons g gs) (wgCons a b) := fun F ρ σ H vs ds P Q ⟨d, r, e, p⟩ s h q => by
  subst e
  cases h with
  | cons h3 h4 => exact ⟨_, _, rfl, h1 F ρ σ H _ d _ _ p s h3 fun ρ1 σ1 p1 s1 x1 => h2 F ρ1 σ1 H _ r P Q p1 s1 (Dts.mono x1 _ _ h4) fun ρ2 σ2 p2 s2 x2 => q ρ2 σ2 p2 s2 (ext_tr x1 x2)⟩
theorem g_tup {K : PySem.W.Frag} {n : Nat} {gs : TGs} {b : WGs} (h2 : SndGs gs b) : SndG (gTup K n gs) (wgTup n b) := fun F ρ σ H v d P Q ⟨ds, e, l, p⟩ s h q => by
  subst e
  cases h with
  | tup h3 h4 => exact ⟨_, _, rfl, SqT.of (mask_sub _ _ h3), by rw [h4.length]; exact l, h2 F ρ σ H _ ds P Q p s h4 q⟩
/-- a target stores in these slots alone -/
def TgIn (g : TG) (vs : List Nat) : Prop := ∀ v σ H (Q Q' : L2.St → Hp → Prop), (∀ σ2 H2, wipe σ2 vs = wipe σ vs → Q σ2 H2 → Q' σ2 H2) → g v σ H Q → g v σ H Q'
def TgsIn (g : TGs) (vs : List Nat) : Prop := ∀ v σ H (Q Q' : L2.St → Hp → Prop), (∀ σ2 H2, wipe σ2 vs = wipe σ vs → Q σ2 H2 → Q' σ2 H2) → g v σ H Q → g v σ H Q'
theorem wipe_get (σ : L2.St) : ∀ (vs : List Nat) (i : Nat), (wipe σ vs)[i]? = if i ∈ vs then (σ[i]?).map (fun _ => none) else σ[i]?
  | [], i => by simp [wipe]
  | v :: vs, i => by
    unfold wipe
    by_cases e : i = v
    · subst e
      rw [if_pos List.mem_cons_self]
      by_cases h : i < σ.length
      · rw [List.getElem?_set_self (by rw [wipe_length]; exact h), List.getElem?_eq_getElem h] <;> rfl
      · rw [List.getElem?_eq_none (by rw [List.length_set, wipe_length]; omega), List.getElem?_eq_none (by omega)] <;> rfl
    · rw [List.getElem?_set_ne (Ne.symm e), wipe_get σ vs i]
      by_cases h : i ∈ vs
      · rw [if_pos h, if_pos (List.mem_cons_of_mem _ h)]
      · rw [if_neg h, if_neg (fun z => (List.mem_cons.mp z).elim e h)]
theorem wipe_set {σ : L2.St} {vs : List Nat} {i : Nat} {x : Option V} (h : i ∈ vs) : wipe (σ.set i x) vs = wipe σ vs := List.ext_getElem? fun j => by
  rw [wipe_get, wipe_get]
  by_cases hj : j ∈ vs
  · rw [if_pos hj, if_pos hj]
    by_cases e : i = j
    · subst e
      by_cases hl : i < σ.length
      · rw [List.getElem?_set_self hl, List.getElem?_eq_getElem hl] <;> rfl
      · rw [List.getElem?_eq_none (by rw [List.length_set]; omega), List.getElem?_eq_none (by omega)]
    · rw [List.getElem?_set_ne e]
  · have e : i ≠ j := fun e => hj (e ▸ h)
    rw [if_neg hj, if_neg hj, List.getElem?_set_ne e]
theorem wipe_wipe (σ : L2.St) (vs : List Nat) : wipe (wipe σ vs) vs = wipe σ vs := List.ext_getElem? fun j => by
  rw [wipe_get, wipe_get]
  by_cases hj : j ∈ vs
  · rw [if_pos hj, if_pos hj, Option.map_map] <;> rfl
  · rw [if_neg hj, if_neg hj]
theorem in_name {i : Nat} {vs : List Nat} (h : i ∈ vs := by decide) : TgIn (gName i) vs := fun v σ H Q Q' q p => q _ _ (wipe_set h) p
theorem in_nil {vs : List Nat} : TgsIn gNil vs := fun v σ H Q Q' q p => ⟨p.1, q _ _ rfl p.2⟩
theorem in_cons {g : TG} {gs : TGs} {vs : List Nat} (h1 : TgIn g vs) (h2 : TgsIn gs vs) : TgsIn (gCons g gs) vs := fun v σ H Q Q' q ⟨x, r, e, p⟩ =>
  ⟨x, r, e, h1 x σ H _ _ (fun σ2 H2 e2 p2 => h2 r σ2 H2 _ _ (fun σ3 H3 e3 p3 => q σ3 H3 (e3.trans e2) p3) p2) p⟩
theorem in_tup {K : PySem.W.Frag} {n : Nat} {gs : TGs} {vs : List Nat} (h : TgsIn gs vs) : TgIn (gTup K n gs) vs := fun v σ H Q Q' q ⟨a, xs, e, h1, h2, p⟩ => ⟨a, xs, e, h1, h2, h xs σ H _ _ q p⟩

def wNext : WS := fun E ρ => E.nx ρ
def wSeq (a b : WS) : WS := fun E ρ => a { E with nx := b E } ρ
def wRet (we : WE) : WS := fun E ρ => we ρ E.rt
def wIfS (wt : WT) (a b : WS) : WS := fun E ρ => wt ρ fun c => (c = true → a E ρ) ∧ (c = false → b E ρ)
def wAsg (we : WE) (wg : WG) : WS := fun E ρ => we ρ fun d => wg d ρ E.nx
def wPar (i j : Nat) (wa : WA) : WS := fun E ρ => wa ρ fun ds => ∃ x y, ds = [x, y] ∧ E.nx ((ρ.set i (.dat x)).set j (.dat y))
def wDrop (we : WE) : WS := fun E ρ => we ρ fun _ => E.nx ρ
section
variable {t u : TS} {a b : WS} {te : TE} {we : WE}
theorem s_next : SndS tNext wNext := fun F ρ σ H D E h s ag => ag.nx ρ σ H h s
theorem s_seq (h1 : SndS t a) (h2 : SndS u b) : SndS (tSeq t u) (wSeq a b) := fun F ρ σ H D E h s ag =>
  h1 F ρ σ H _ _ h s ⟨fun ρ' σ' H' p s' => h2 F ρ' σ' H' D E p s' ag, ag.rt, ag.bk, ag.ct⟩
theorem s_ret (h : SndE te we) : SndS (tRet te) (wRet we) := fun F ρ σ H D E p s ag => h F ρ σ H _ _ p s fun v d H' p' s' d' => ag.rt ρ σ H' v d p' s' d'
theorem s_if {tt : TT} {wt : WT} (h : SndT tt wt) (h1 : SndS t a) (h2 : SndS u b) : SndS (tIfS tt t u) (wIfS wt a b) := fun F ρ σ H D E p s ag =>
  h F ρ σ H _ _ p s fun c H' p' s' => by
    cases c with
    | true => rw [if_pos rfl]; exact h1 F ρ σ H' D E (p'.1 rfl) s' ag
    | false => rw [if_neg Bool.false_ne_true]; exact h2 F ρ σ H' D E (p'.2 rfl) s' ag
theorem s_asg {g : TG} {wg : WG} (h : SndE te we) (hg : SndG g wg) : SndS (tAsg te g) (wAsg we wg) := fun F ρ σ H D E p s ag =>
  h F ρ σ H _ _ p s fun v d H' p' s' d' => hg F ρ σ H' v d _ _ p' s' d' fun ρ2 σ2 p2 s2 _ => ag.nx ρ2 σ2 H' p2 s2
theorem s_par {i j : Nat} {ta : TA} {wa : WA} (h : SndA ta wa) : SndS (tPar i j ta) (wPar i j wa) := fun F ρ σ H D E p s ag =>
  h F ρ σ H _ _ p s fun vs ds H' ⟨x, y, e, p'⟩ s' d' => by
    subst e
    cases d' with
    | cons h1 h2 =>
      cases h2 with
      | cons h3 h4 =>
        cases h4
        exact ⟨_, _, rfl, ag.nx _ _ H' p' ((s'.set h1).set (Dt.mono set_mask _ _ h3))⟩
theorem s_drop (h : SndE te we) : SndS (tDrop te) (wDrop we) := fun F ρ σ H D E p s ag => h F ρ σ H _ _ p s fun v d H' p' s' d' => ag.nx ρ σ H' p' s'
end

/-! ### what is walked -/
def ItD (J : L2.It) (v : V) (d0 : PyData) (ds : List PyData) : Prop := ∀ G H, Ext8 G H → Dt G v d0 → ∀ i : Nat, (∀ d, ds[i]? = some d → J.go i H ∧ ∀ x H', J.yld i H x H' → H' = H ∧ Dt G x d) ∧ (ds.length ≤ i → J.stop i H)
def SndI (wi : TI) (W : WA) : Prop := ∀ (F : Fr8) (ρ : List Sl) (σ : L2.St) (H : Hp) (P : List PyData → Prop) (R : L2.It → Hp → Prop), W ρ P → St8 F ρ σ H →
  (∀ ds J v d0 H', P ds → St8 (F.pin v d0) ρ σ H' → ItD J v d0 ds → R J H') → wi σ H R
def iSeq8 (K : PySem.W.Frag) (tl : TE) : TI := fun σ H R => tl σ H fun x H1 => ∃ a, x = .ref a ∧ (((∃ xs, SqL K H1 a xs) ∧ R (Itl K a) H1) ∨ ((∃ xs, SqT K H1 a xs) ∧ R (Itt K a) H1))
theorem pi_seq8 {X : Cx} {tg l : Expr} {tl : TE} (hl : PE X l tl) : PI X tg l (iSeq8 X.K tl) := by
  refine ⟨fun pins s σ H R I h => thn (hl.run pins s σ H _ I h) ?_⟩
  rintro v s1 ⟨x, H1, I1, r1, a, rfl, z⟩
  cases r1
  have fp : ∀ b ∈ [s1.heap.objs.size], FpOk X pins H1 b := fun b hb => by
    rw [List.mem_singleton.mp hb]
    exact I1.fpOk (Nat.le_refl _) (I1.hok.fresh (Nat.le_refl _))
  rcases z with ⟨⟨xs, hq⟩, q⟩ | ⟨⟨xs, hq⟩, q⟩
  · obtain ⟨its, rv, p, _⟩ := I1.list hq
    exact wpAny_pyIter_list p.isList ⟨_, [s1.heap.objs.size], _, _, H1, rfl, I1.kept (t' := s1.toks) (fun b o e => Heap.get?_push_of_some _ e), turn_list a _, ⟨_, Heap.get?_push_size _ rfl, rfl, rfl⟩, fp, q⟩
  · obtain ⟨its, rv, p, _⟩ := I1.tuple hq
    exact wpAny_pyIter_tuple (show s1.heap.IsTuple a its.toArray from p) ⟨_, [s1.heap.objs.size], _, _, H1, rfl, I1.kept (t' := s1.toks) (fun b o e => Heap.get?_push_of_some _ e), turn_tuple a _, ⟨_, Heap.get?_push_size _ rfl, rfl, rfl⟩, fp, q⟩
def wSeq8 (we : WE) : WA := fun ρ P => we ρ fun d => ∃ ds, (d = .list ds ∨ d = .tuple ds) ∧ P ds
theorem itd_l {K : PySem.W.Frag} {a : Addr} {ds : List PyData} : ItD (Itl K a) (.ref a) (.list ds) ds := fun G H e h i => by
  cases h with
  | lst h1 h2 =>
    rename_i xs
    have hs : SqL K H a xs := SqL.of (e _ _ h1)
    refine ⟨fun d hd => ?_, fun hl => ⟨xs, hs, by rw [h2.length]; exact hl⟩⟩
    obtain ⟨x, h3, h4⟩ := h2.get hd
    refine ⟨⟨xs, x, hs, h3⟩, fun y H' hy => ⟨hy.1, ?_⟩⟩
    have e1 := hy.2 xs hs
    rw [h3] at e1; cases e1
    exact h4
theorem itd_t {K : PySem.W.Frag} {a : Addr} {ds : List PyData} : ItD (Itt K a) (.ref a) (.tuple ds) ds := fun G H e h i => by
  cases h with
  | tup h1 h2 =>
    rename_i xs
    have hs : SqT K H a xs := SqT.of (e _ _ h1)
    refine ⟨fun d hd => ?_, fun hl => ⟨xs, hs, by rw [h2.length]; exact hl⟩⟩
    obtain ⟨x, h3, h4⟩ := h2.get hd
    refine ⟨⟨xs, x, hs, h3⟩, fun y H' hy => ⟨hy.1, ?_⟩⟩
    have e1 := hy.2 xs hs
    rw [h3] at e1; cases e1
    exact h4
theorem i_seq {K : PySem.W.Frag} {tl : TE} {we : WE} (h : SndE tl we) : SndI (iSeq8 K tl) (wSeq8 we) := fun F ρ σ H P R p s q =>
  h F ρ σ H _ _ p s fun v d H' ⟨ds, e, p'⟩ s' d' => by
    rcases e with e | e
    · subst e
      have d2 := d'
      cases d' with
      | lst h1 h2 => exact ⟨_, rfl, .inl ⟨⟨_, SqL.of (mask_sub _ _ h1)⟩, q ds _ _ _ H' p' (s'.pin d2) itd_l⟩⟩
    · subst e
      have d2 := d'
      cases d' with
      | tup h1 h2 => exact ⟨_, rfl, .inr ⟨⟨_, SqT.of (mask_sub _ _ h1)⟩, q ds _ _ _ H' p' (s'.pin d2) itd_t⟩⟩
def wRng1 (wa : WA) : WA := fun ρ P => wa ρ fun ds => ∃ j : Int, ds = [.int j] ∧ -(2 ^ 62) ≤ j ∧ j < 2 ^ 62 ∧ P ((List.range j.toNat).map fun i => .int (i : Nat))
theorem i_rng1 {ta : TA} {wa : WA} (h : SndA ta wa) : SndI (iRng1 ta) (wRng1 wa) := fun F ρ σ H P R p s q =>
  h F ρ σ H _ _ p s fun vs ds H' ⟨j, e, l1, l2, p'⟩ s' d' => by
    subst e
    have ev := dts_ints (ns := [j]) d'
    refine ⟨j, ev, l1, l2, q _ _ .non .none H' p' (s'.pin .non) fun G H2 e2 _ i => ⟨fun d hd => ?_, fun hl => ?_⟩⟩
    · rw [List.getElem?_map] at hd
      obtain ⟨k, h1, h2⟩ := Option.map_eq_some_iff.mp hd
      obtain ⟨h3, h4⟩ := List.getElem?_eq_some_iff.mp h1
      rw [List.getElem_range] at h4
      subst h4
      rw [List.length_range] at h3
      refine ⟨h3, fun x H3 hx => ⟨hx.1, ?_⟩⟩
      have ex := hx.2
      rw [Int.zero_add] at ex
      rw [ex, ← h2]
      exact .int _
    · rw [List.length_map, List.length_range] at hl
      exact hl

/-! ### for -/
def wFor (wi : WA) (wg : WG) (wb : WS) : WS := fun E ρ => wi ρ fun ds => ∃ Iv : Nat → List Sl → Prop, Iv 0 ρ ∧
  (∀ i d ρ', ds[i]? = some d → Iv i ρ' → wg d ρ' fun ρ2 => wb { nx := Iv (i + 1), rt := E.rt, bk := E.nx, ct := Iv (i + 1) } ρ2) ∧ ∀ ρ', Iv ds.length ρ' → E.nx ρ'
theorem s_for {wi : TI} {Wi : WA} {g : TG} {wg : WG} {tb : TS} {wb : WS} (hi : SndI wi Wi) (hg : SndG g wg) (hb : SndS tb wb) : SndS (tFor wi g tb) (wFor Wi wg wb) := fun F ρ σ H D E p s ag =>
  hi F ρ σ H _ _ p s fun ds J v d0 H1 ⟨Iv, h0, hs, hd⟩ s1 it => by
    refine ⟨fun i m σ' H' => m = ds.length - i ∧ i ≤ ds.length ∧ ∃ ρ', Iv i ρ' ∧ St8 (F.pin v d0) ρ' σ' H', ⟨ds.length, by simp, Nat.zero_le _, ρ, h0, s1⟩, fun i m σ' H' ⟨em, hl, ρ', hI, s'⟩ => ?_⟩
    obtain ⟨i1, i2⟩ := it (mask (M8 F σ' ρ') H') H' mask_sub s'.pinned i
    by_cases hlt : i < ds.length
    · obtain ⟨d, hd1⟩ : ∃ d, ds[i]? = some d := ⟨_, List.getElem?_eq_getElem hlt⟩
      obtain ⟨j1, j2⟩ := i1 d hd1
      refine .inr ⟨j1, fun σ2 H2 => ∃ ρ2, Iv (i + 1) ρ2 ∧ St8 (F.pin v d0) ρ2 σ2 H2, fun σ2 H2 ⟨ρ2, a1, a2⟩ => ⟨m - 1, by omega, by omega, by omega, ρ2, a1, a2⟩, fun x H2 hy => ?_⟩
      obtain ⟨e, hx⟩ := j2 x H2 hy
      subst e
      exact hg (F.pin v d0) ρ' σ' H2 x d _ _ (hs i d ρ' hd1 hI) s' hx fun ρ2 σ2 p2 s2 _ => hb (F.pin v d0) ρ2 σ2 H2 _ _ p2 s2
        ⟨fun ρ3 σ3 H3 a1 a2 => ⟨ρ3, a1, a2⟩, fun ρ3 σ3 H3 w e a1 a2 a3 => ag.rt ρ3 σ3 H3 w e a1 a2.unpin a3, fun ρ3 σ3 H3 a1 a2 => ag.nx ρ3 σ3 H3 a1 a2.unpin, fun ρ3 σ3 H3 a1 a2 => ⟨ρ3, a1, a2⟩⟩
    · have e : i = ds.length := by omega
      exact .inl ⟨i2 (by omega), ag.nx ρ' σ' H' (hd ρ' (e ▸ hI)) s'.unpin⟩

/-! ### comprehensions -/
def wipeR (ρ : List Sl) : List Nat → List Sl
  | [] => ρ
  | v :: vs => (wipeR ρ vs).set v .un
theorem wipeR_length (ρ : List Sl) : ∀ vs : List Nat, (wipeR ρ vs).length = ρ.length
  | [] => rfl
  | v :: vs => by unfold wipeR; rw [List.length_set, wipeR_length ρ vs]
theorem wipeR_get {ρ : List Sl} {i : Nat} {x : Sl} : ∀ {vs : List Nat}, (wipeR ρ vs)[i]? = some x → x ≠ .un → ρ[i]? = some x ∧ i ∉ vs
  | [], h, _ => ⟨h, by simp⟩
  | v :: vs, h, n => by
    unfold wipeR at h
    rcases set_get h with ⟨_, e⟩ | ⟨n1, n2⟩
    · exact absurd e n
    · obtain ⟨h1, h2⟩ := wipeR_get n2 n
      exact ⟨h1, fun z => (List.mem_cons.mp z).elim n1 h2⟩
section
variable {F : Fr8} {ρ ρ2 : List Sl} {σ σ2 : L2.St} {H : Hp} {vs : List Nat}
theorem wipe_eq (e : wipe σ2 vs = wipe σ vs) {i : Nat} (h : i ∉ vs) : σ2[i]? = σ[i]? := by
  have q := congrArg (fun l => l[i]?) e
  have q' : (wipe σ2 vs)[i]? = (wipe σ vs)[i]? := q
  rw [wipe_get, wipe_get, if_neg h, if_neg h] at q'
  exact q'
theorem St8.back (s : St8 F ρ2 σ2 H) (e : wipe σ2 vs = wipe σ vs) (er : wipeR ρ2 vs = ρ) : St8 F ρ σ H := by
  subst er
  refine s.less ?_ fun i x h n => ?_
  · have q := congrArg List.length e
    rw [wipe_length, wipe_length] at q
    rw [wipeR_length, ← q]; exact s.len
  · obtain ⟨h1, h2⟩ := wipeR_get h n
    exact ⟨h1, (wipe_eq e h2).symm⟩
theorem back_mask (e : wipe σ2 vs = wipe σ vs) (er : wipeR ρ2 vs = ρ) : Ext8 (mask (M8 F σ2 ρ2) H) (mask (M8 F σ ρ) H) := mask_less fun a z => by
  subst er
  rcases z with ⟨i, ds, e1, e2⟩ | z
  · obtain ⟨h1, h2⟩ := wipeR_get e1 nofun
    exact .inl ⟨i, ds, h1, (wipe_eq e h2).trans e2⟩
  · exact .inr z
end
/-- a new list -/
def SndL (t : TE) (W : WA) : Prop := ∀ (F : Fr8) (ρ : List Sl) (σ : L2.St) (H : Hp) (P : List PyData → Prop) (Q : VK), W ρ P → St8 F ρ σ H →
  (∀ a vs ds H', P ds → F.H0 a = none → ¬ M8 F σ ρ a → St8 (F.frz a (.lst vs)) ρ σ H' → Dts (mask (M8 (F.frz a (.lst vs)) σ ρ) H') vs ds → Q (.ref a) H') → t σ H Q
def wL (W : WA) : WE := fun ρ P => W ρ fun ds => P (.list ds)
theorem not_m {F : Fr8} {σ : L2.St} {ρ : List Sl} {a : Addr} (h : ¬ M8 F σ ρ a) : F.m a = none := by
  cases q : F.m a with
  | none => rfl
  | some u => exact absurd (.inr (.inr (by rw [q]; exact nofun))) h
theorem melt_mask {F : Fr8} {σ : L2.St} {ρ : List Sl} {a : Addr} {o : HO} {H : Hp} : Ext8 (mask (M8 (F.frz a o) σ ρ) H) (mask (M8 F σ ρ) H) := mask_less fun b z => by
  rcases z with z | z | z
  · exact .inl z
  · exact .inr (.inl z)
  · refine .inr (.inr ?_)
    show upd F.m a o b ≠ none
    by_cases e : b = a
    · subst e; rw [upd_same]; exact nofun
    · rw [upd_ne e]; exact z
theorem snd_L {t : TE} {W : WA} (h : SndL t W) : SndE t (wL W) := fun F ρ σ H P Q p s q =>
  h F ρ σ H _ Q p s fun a vs ds H' p' h0 nm s' d' => q _ _ H' p' (s'.melt (not_m nm)) (.lst (mask_at (s'.fz a _ upd_same) nm) (Dts.mono melt_mask _ _ d'))
def wOwn (W : WA) (i : Nat) : WS := fun E ρ => W ρ fun ds => i < ρ.length ∧ E.nx (ρ.set i (.own (.lst ds)))
theorem s_own {t : TE} {W : WA} {i : Nat} (h : SndL t W) : SndS (tAsg t (gName i)) (wOwn W i) := fun F ρ σ H D E p s ag =>
  h F ρ σ H _ _ p s fun a vs ds H' p' h0 nm s' d' => ag.nx _ _ H' p'.2 (s'.adopt (ds := .lst ds) ⟨vs, rfl, d'⟩ h0 nm p'.1)
theorem l_nil : SndL (tLst tNil) wNil := fun F ρ σ H P Q p s q =>
  ⟨Nat.zero_le _, fun a ha => q a [] [] _ p (s.newH0 ha) (s.newM ha) (s.lay ha) .nil⟩
/-- an own list grows -/
def wApp (i : Nat) (we : WE) : WS := fun E ρ => (∃ ds0, ρ[i]? = some (.own (.lst ds0))) ∧ we ρ fun d => ∃ ds, ρ[i]? = some (.own (.lst ds)) ∧ ds.length < sizeLine ∧ E.nx (ρ.set i (.own (.lst (ds ++ [d]))))
theorem s_app {K : PySem.W.Frag} {i : Nat} {te : TE} {we : WE} (h : SndE te we) : SndS (tDrop (tBM K "list" rAppend (tVar i) (tCons te tNil))) (wApp i we) := fun F ρ σ H D E ⟨⟨ds0, p0⟩, p⟩ s ag => by
  obtain ⟨l, _, h1, h2, vs, rfl, h3⟩ := s.own i _ p0
  refine ⟨.ref l, h1, .inl ⟨rfl, vs, SqL.of h2⟩, h F ρ σ H _ _ p s fun v d H1 ⟨ds, e, hl, p1⟩ s1 d1 => ?_⟩
  obtain ⟨l', _, e1, e2, us, rfl, e3⟩ := s1.own i _ e
  rw [h1] at e1
  cases e1
  exact ⟨l, us, v, rfl, rfl, e2, by rw [e3.length]; exact hl, ag.nx _ _ _ p1 (s1.alter (es := .lst (ds ++ [d])) e h1 ⟨_, rfl, e3.append (.one d1)⟩)⟩
/-- .. is done -/
def wFrz (i : Nat) (a : WS) : WS := fun E ρ => ∃ ds, ρ[i]? = some (.own (.lst ds)) ∧ a E (ρ.set i (.dat (.list ds)))
theorem s_frz (i : Nat) {t : TS} {a : WS} (h : SndS t a) : SndS t (wFrz i a) := fun F ρ σ H D E ⟨ds, e, p⟩ s ag => h F _ σ H D E p (s.freeze e) ag
/-- an item of an own list -/
def wIxOwn (i : Nat) (we : WE) : WE := fun ρ P => (∃ ds0, ρ[i]? = some (.own (.lst ds0))) ∧ we ρ fun x => ∃ ds j d, ρ[i]? = some (.own (.lst ds)) ∧ x = .int j ∧ atI ds j = some d ∧ P d
theorem snd_ixOwn {K : PySem.W.Frag} {i : Nat} {te : TE} {we : WE} (h : SndE te we) : SndE (tOp (rIx8 K) (tVar i) te) (wIxOwn i we) := fun F ρ σ H P Q ⟨⟨ds0, p0⟩, p⟩ s q => by
  obtain ⟨l, _, h1, h2, vs, rfl, h3⟩ := s.own i _ p0
  refine ⟨.ref l, h1, h F ρ σ H _ _ p s fun v x H1 ⟨ds, j, d, e, ex, ea, p1⟩ s1 d1 => ?_⟩
  subst ex
  have ev := d1.intI
  subst ev
  obtain ⟨l', _, e1, e2, us, rfl, e3⟩ := s1.own i _ e
  rw [h1] at e1
  cases e1
  obtain ⟨w, a1, a2⟩ := e3.atI ea
  exact .inl ⟨l, us, j, w, rfl, rfl, SqL.of e2, a1, q _ _ H1 p1 s1 a2⟩
/-! the comprehension itself -/
def wLc (wi : WA) (wg : WG) (wt : WT) (we : WE) (vs : List Nat) : WA := fun ρ P => wipeR ρ vs = ρ ∧ wi ρ fun ds => ds.length < 1000000 ∧ ∃ Iv : Nat → List PyData → Prop, Iv 0 [] ∧
  (∀ i acc d, ds[i]? = some d → Iv i acc → wg d ρ fun ρ2 => wipeR ρ2 vs = ρ ∧ wt ρ2 fun b => (b = true → we ρ2 fun y => Iv (i + 1) (acc ++ [y])) ∧ (b = false → Iv (i + 1) acc)) ∧ ∀ acc, Iv ds.length acc → P acc
def wYes : WT := fun _ P => P true
theorem snd_yes : SndT tYes wYes := fun F ρ σ H P Q p s q => q _ _ p s
theorem l_lc {wi : TI} {Wi : WA} {g : TG} {wg : WG} {tt : TT} {wt : WT} {te : TE} {we : WE} {vs : List Nat} (hi : SndI wi Wi) (hg : SndG g wg) (hin : TgIn g vs) (ht : SndT tt wt) (he : SndE te we) :
    SndL (tLc wi g tt te vs) (wLc Wi wg wt we vs) := fun F ρ σ H P Q ⟨er, p⟩ s q =>
  hi F ρ σ H _ _ p s fun ds J v d0 H1 ⟨hlen, Iv, h0, hs, hd⟩ s1 it a ha => by
    have nm : ¬ M8 (F.pin v d0) σ ρ a := s1.newM ha
    have nh : F.H0 a = none := s1.newH0 ha
    refine ⟨fun i m H' => m = ds.length - i ∧ i ≤ ds.length ∧ ∃ acc us, Iv i acc ∧ acc.length ≤ i ∧ us.length = acc.length ∧ St8 (((F.pin v d0).pinAll us acc).frz a (.lst us)) ρ σ H',
      ⟨ds.length, by simp, Nat.zero_le _, [], [], h0, Nat.le_refl _, rfl, s1.lay ha⟩, fun i m H' ⟨em, hl, acc, us, hI, hal, hul, s'⟩ => ?_⟩
    obtain ⟨i1, i2⟩ := it (mask (M8 (((F.pin v d0).pinAll us acc).frz a (.lst us)) σ ρ) H') H' mask_sub (s'.pins (v, d0) (List.mem_append_right _ List.mem_cons_self)) i
    by_cases hlt : i < ds.length
    · obtain ⟨d, hd1⟩ : ∃ d, ds[i]? = some d := ⟨_, List.getElem?_eq_getElem hlt⟩
      obtain ⟨j1, j2⟩ := i1 d hd1
      refine .inr ⟨j1, fun H2 => ∃ acc us, Iv (i + 1) acc ∧ acc.length ≤ i + 1 ∧ us.length = acc.length ∧ St8 (((F.pin v d0).pinAll us acc).frz a (.lst us)) ρ σ H2, fun H2 ⟨ac, u2, a1, a2, a3, a4⟩ => ⟨m - 1, by omega, by omega, by omega, ac, u2, a1, a2, a3, a4⟩, fun x H2 hy => ?_⟩
      obtain ⟨e, hx⟩ := j2 x H2 hy
      subst e
      have sw : St8 (((F.pin v d0).pinAll us acc).frz a (.lst us)) ρ (wipe σ vs) H2 := s'.back (vs := vs) (wipe_wipe σ vs).symm er
      refine hin x (wipe σ vs) H2 _ _ (fun σ2 H3 e2 p2 => ⟨e2.trans (wipe_wipe σ vs), p2 (e2.trans (wipe_wipe σ vs))⟩) (hg _ ρ (wipe σ vs) H2 x d _ (fun σ2 H3 => wipe σ2 vs = wipe σ vs → tt σ2 H3 fun b H4 => if b = true then te σ2 H4 fun y H5 => ∃ ac, H5 a = some (.lst ac) ∧ ac.length < sizeLine ∧
        (∃ acc us, Iv (i + 1) acc ∧ acc.length ≤ i + 1 ∧ us.length = acc.length ∧ St8 (((F.pin v d0).pinAll us acc).frz a (.lst us)) ρ σ (upd H5 a (.lst (ac ++ [y])))) else ∃ acc us, Iv (i + 1) acc ∧ acc.length ≤ i + 1 ∧ us.length = acc.length ∧ St8 (((F.pin v d0).pinAll us acc).frz a (.lst us)) ρ σ H4) (hs i acc d hd1 hI) sw (Dt.mono (back_mask (vs := vs) (wipe_wipe σ vs).symm er) _ _ hx) fun ρ2 σ2 ⟨er2, p2⟩ s2 _ ew => ?_)
      refine ht _ ρ2 σ2 H2 _ _ p2 s2 fun b H3 p3 s3 => ?_
      cases b with
      | false =>
        rw [if_neg Bool.false_ne_true]
        exact ⟨acc, us, p3.2 rfl, Nat.le_succ_of_le hal, hul, s3.back ew er2⟩
      | true =>
        rw [if_pos rfl]
        refine he _ ρ2 σ2 H3 _ _ (p3.1 rfl) s3 fun y f H4 p4 s4 d4 => ?_
        have s5 := s4.back ew er2
        have d5 := Dt.mono (back_mask ew er2) _ _ d4
        refine ⟨us, s5.fz a _ upd_same, ?_, acc ++ [f], us ++ [y], p4, ?_, ?_, ?_⟩
        · rw [hul, sizeLine_eq]; omega
        · rw [List.length_append, List.length_singleton]; omega
        · rw [List.length_append, List.length_append, hul] <;> rfl
        · have du : Dts (mask (M8 (((F.pin v d0).pinAll us acc).frz a (.lst us)) σ ρ) H4) us acc := zip_dts hul fun p hp => s5.pins p (List.mem_append_left _ hp)
          obtain ⟨s6, mk⟩ := s5.mut (o' := .lst (us ++ [y])) nh
          have dn : Dts (mask (M8 ((F.pin v d0).frz a (.lst (us ++ [y]))) σ ρ) (upd H4 a (.lst (us ++ [y])))) (us ++ [y]) (acc ++ [f]) := by
            show Dts (mask (M8 (((F.pin v d0).pinAll us acc).frz a (.lst (us ++ [y]))) σ ρ) (upd H4 a (.lst (us ++ [y])))) (us ++ [y]) (acc ++ [f])
            rw [mk]
            exact du.append (.one d5)
          have s7 : St8 ((F.pin v d0).frz a (.lst (us ++ [y]))) ρ σ (upd H4 a (.lst (us ++ [y]))) :=
            ⟨s6.len, s6.src, s6.fz, s6.sep1, s6.sep2, s6.sep3, s6.fo, s6.ex, s6.dat, s6.own, s6.hp, fun p hp => s6.pins p (List.mem_append_right _ hp)⟩
          exact s7.pinAll dn
    · have e : i = ds.length := by omega
      subst e
      refine .inl ⟨i2 (Nat.le_refl _), q a us acc H' (hd acc hI) nh nm ?_ (zip_dts hul fun p hp => s'.pins p (List.mem_append_left _ hp))⟩
      exact ⟨s'.len, s'.src, s'.fz, s'.sep1, s'.sep2, s'.sep3, s'.fo, s'.ex, s'.dat, s'.own, s'.hp, fun p hp => s'.pins p (List.mem_append_right _ (List.mem_cons_of_mem _ hp))⟩

/-! ### promises and calls -/
abbrev S8 := List PyData → (PyData → Prop) → Prop
/-- a def that makes new objects alone -/
def spP (S : S8) : Sp := fun vs H Q _ => ∃ (m : Addr → Prop) (ds : List PyData) (P : PyData → Prop), (∀ a, m a → H a ≠ none) ∧ Dts (mask m H) vs ds ∧ S ds P ∧ ∀ v d H', P d → Ext8 H H' → Dt (mask m H') v d → Q v H'
/-- a def that draws: its first argument is the heap -/
def spH (S : S8) : Sp := fun vs H Q _ => ∃ (m : Addr → Prop) (a c : Addr) (ws : List V) (ds : List PyData) (P : PyData → Prop), vs = .ref a :: ws ∧ (∀ b, m b → H b ≠ none) ∧ m a ∧ m c ∧ Src a c H ∧ Dts (mask m H) ws ds ∧ S ds P ∧
  ∀ v d H', P d → Src a c H' → (∀ b o, b ≠ a → b ≠ c → H b = some o → H' b = some o) → Dt (mask m H') v d → Q v H'
def wCall (S : S8) (wa : WA) : WE := fun ρ P => wa ρ fun ds => S ds P
theorem snd_call {S : S8} {E : XK} {t : TA} {wa : WA} (h : SndA t wa) : SndE (tCall (spP S) [] E t) (wCall S wa) := fun F ρ σ H P Q p s q =>
  h F ρ σ H _ _ p s fun vs ds H1 p1 s1 d1 => ⟨M8 F σ ρ, ds, P, s1.al, by rw [List.append_nil]; exact d1, p1, fun v d H2 p2 e2 d2 => q v d H2 p2 (s1.keep e2) d2⟩
def wCallK (S : S8) (g : List PyData → List PyData → List PyData) (wa wk : WA) : WE := fun ρ P => wa ρ fun ds => wk ρ fun es => S (g ds es) P
theorem snd_callK {S : S8} {E : XK} {t tk : TA} {wa wk : WA} {gV : List V → List V → List V} {g : List PyData → List PyData → List PyData} (hgv : ∀ {G : Hp} {vs us ds es}, Dts G vs ds → Dts G us es → Dts G (gV vs us) (g ds es)) (h : SndA t wa) (hk : SndA tk wk) :
    SndE (tCallK (spP S) gV E t tk) (wCallK S g wa wk) := fun F ρ σ H P Q p s q =>
  h F ρ σ H _ _ p s fun vs ds H1 p1 s1 d1 => hk (F.pinAll vs ds) ρ σ H1 _ _ p1 (s1.pinAll d1) fun us es H2 p2 s2 d2 =>
    ⟨M8 F σ ρ, g ds es, P, s2.al, hgv (s2.pinnedAll d1.length) d2, p2, fun v d H3 p3 e3 d3 => q v d H3 p3 (s2.unpinAll.keep e3) d3⟩
def wCallH (S : S8) (i : Nat) (wa : WA) : WE := fun ρ P => ρ[i]? = some .heap ∧ wa ρ fun ds => S ds P
theorem snd_callH {S : S8} {i : Nat} {E : XK} {t : TA} {wa : WA} (h : SndA t wa) : SndE (tCall (spH S) [] E (tCons (tVar i) t)) (wCallH S i wa) := fun F ρ σ H P Q ⟨hi, p⟩ s q => by
  obtain ⟨a, c, e1, e2⟩ := s.hp i hi
  refine ⟨.ref a, e2, h F ρ σ H _ _ p s fun vs ds H1 p1 s1 d1 => ?_⟩
  refine ⟨M8 F σ ρ, a, c, vs, ds, P, by rw [List.append_nil], s1.al, .inr (.inl ⟨a, c, e1, .inl rfl⟩), .inr (.inl ⟨a, c, e1, .inr rfl⟩), s1.src a c e1, d1, p1, fun v d H2 p2 r2 e3 d2 => ?_⟩
  refine q v d H2 p2 (s1.go (fun b o n hb => e3 b o (fun z => n ⟨a, c, e1, .inl z⟩) (fun z => n ⟨a, c, e1, .inr z⟩) hb) fun x y exy => ?_) d2
  rw [e1] at exy; cases exy; exact r2
/-- a body keeps its promise -/
def dats (ds : List PyData) (n : Nat) : List Sl := ds.map Sl.dat ++ List.replicate n Sl.un
theorem start_len {N : List Str} {vs : List V} : (L2.start N vs).length = vs.length + (N.length - vs.length) := by unfold L2.start; simp
theorem start_get {N : List Str} {vs : List V} {i : Nat} {v : V} (h : vs[i]? = some v) : (L2.start N vs)[i]? = some (some v) := by
  unfold L2.start
  rw [List.getElem?_append_left (by rw [List.length_map]; exact (List.getElem?_eq_some_iff.mp h).1), List.getElem?_map, h] <;> rfl
theorem dats_get {ds : List PyData} {n i : Nat} {x : Sl} (h : (dats ds n)[i]? = some x) : x = .un ∨ ∃ d, ds[i]? = some d ∧ x = .dat d := by
  unfold dats at h
  by_cases hi : i < ds.length
  · rw [List.getElem?_append_left (by rw [List.length_map]; exact hi), List.getElem?_map] at h
    obtain ⟨d, h1, h2⟩ := Option.map_eq_some_iff.mp h
    exact .inr ⟨d, h1, h2.symm⟩
  · rw [List.getElem?_append_right (by rw [List.length_map]; omega), List.getElem?_replicate] at h
    split at h
    · exact .inl (Option.some.inj h).symm
    · cases h
open Classical in
theorem run_P {S : S8} {N : List Str} {t : TS} {W : WS} (hs : SndS t W) (hw : ∀ ds P, S ds P → W { nx := fun _ => P .none, rt := P } (dats ds (N.length - ds.length))) {vs : List V} {H : Hp} {Q : VK} {E : XK} (h : spP S vs H Q E) :
    t { nx := fun _ H' => Q .non H', rt := Q } (L2.start N vs) H := by
  obtain ⟨m, ds, P, al, hd, hS, q⟩ := h
  let F : Fr8 := { m := fun a => if m a then H a else none, H0 := H, hp := none, pins := [] }
  have hM : ∀ {σ : L2.St} {ρ : List Sl} a, m a → M8 F σ ρ a := fun {σ ρ} a ha => .inr (.inr (by
    show (if m a then H a else none) ≠ none
    rw [if_pos ha]; exact al a ha))
  have noO : ∀ {σ : L2.St} a, ¬ OwnsAt σ (dats ds (N.length - ds.length)) a := fun {σ} a ⟨i, es, e1, _⟩ => by
    rcases dats_get e1 with z | ⟨d, _, z⟩ <;> cases z
  have hM' : ∀ a, M8 F (L2.start N vs) (dats ds (N.length - ds.length)) a → m a := fun a z => by
    rcases z with z | ⟨x, y, z, _⟩ | z
    · exact absurd z (noO a)
    · cases z
    · by_cases ha : m a
      · exact ha
      · exact absurd (if_neg ha) z
  have s0 : St8 F (dats ds (N.length - ds.length)) (L2.start N vs) H := by
    refine ⟨?_, fun a c e => (by cases e), fun a o e => ?_, fun a z => absurd z (noO a), fun a ⟨x, y, z, _⟩ => (by cases z), fun i j a di dj e1 => ?_, fun a z => absurd z (noO a), fun a o _ e => e, fun i d e => ?_, fun i es e => ?_, fun i e => ?_, fun p hp => (by cases hp)⟩
    · rw [start_len, hd.length]; unfold dats; simp
    · have e' : (if m a then H a else none) = some o := e
      split at e'
      · exact e'
      · cases e'
    · rcases dats_get e1 with z | ⟨d, _, z⟩ <;> cases z
    · rcases dats_get e with z | ⟨d', h1, z⟩
      · cases z
      · cases z
        obtain ⟨v, h2, h3⟩ := hd.get h1
        exact ⟨v, start_get h2, Dt.mono (mask_less hM') _ _ h3⟩
    · rcases dats_get e with z | ⟨d, _, z⟩ <;> cases z
    · rcases dats_get e with z | ⟨d, _, z⟩ <;> cases z
  have ex : ∀ {ρ : List Sl} {σ : L2.St} {H' : Hp}, St8 F ρ σ H' → Ext8 H H' := fun {ρ σ H'} s a o e => s.ex a o (fun ⟨x, y, z, _⟩ => by cases z) e
  refine hs F _ _ H _ _ (hw ds P hS) s0 ⟨fun ρ σ H' p s => q _ _ H' p (ex s) .non, fun ρ σ H' v d p s hd => q v d H' p (ex s) (Dt.mono (mask_less hM) _ _ hd), fun ρ σ H' p s => p.elim, fun ρ σ H' p s => p.elim⟩
open Classical in
theorem run_H {S : S8} {N : List Str} {t : TS} {W : WS} (hs : SndS t W) (hw : ∀ ds P, S ds P → W { nx := fun _ => P .none, rt := P } (.heap :: dats ds (N.length - (ds.length + 1)))) {vs : List V} {H : Hp} {Q : VK} {E : XK} (h : spH S vs H Q E) :
    t { nx := fun _ H' => Q .non H', rt := Q } (L2.start N vs) H := by
  obtain ⟨m, a, c, ws, ds, P, ev, al, ma, mc, hsrc, hd, hS, q⟩ := h
  subst ev
  let F : Fr8 := { m := fun b => if m b ∧ b ≠ a ∧ b ≠ c then H b else none, H0 := H, hp := some (a, c), pins := [] }
  have hM : ∀ {σ : L2.St} {ρ : List Sl} b, m b → M8 F σ ρ b := fun {σ ρ} b hb => by
    by_cases z : b = a ∨ b = c
    · exact .inr (.inl ⟨a, c, rfl, z⟩)
    · refine .inr (.inr ?_)
      show (if m b ∧ b ≠ a ∧ b ≠ c then H b else none) ≠ none
      rw [if_pos ⟨hb, fun e => z (.inl e), fun e => z (.inr e)⟩]; exact al b hb
  have get : ∀ {i : Nat} {x : Sl}, (Sl.heap :: dats ds (N.length - (ds.length + 1)))[i]? = some x → (i = 0 ∧ x = .heap) ∨ x = .un ∨ ∃ j d, i = j + 1 ∧ ds[j]? = some d ∧ x = .dat d := fun {i x} e => by
    cases i with
    | zero => exact .inl ⟨rfl, (Option.some.inj e).symm⟩
    | succ j =>
      have e' : (dats ds (N.length - (ds.length + 1)))[j]? = some x := e
      rcases dats_get e' with z | ⟨d, h1, z⟩
      · exact .inr (.inl z)
      · exact .inr (.inr ⟨j, d, rfl, h1, z⟩)
  have noO : ∀ {σ : L2.St} b, ¬ OwnsAt σ (Sl.heap :: dats ds (N.length - (ds.length + 1))) b := fun {σ} b ⟨i, es, e1, _⟩ => by
    rcases get e1 with ⟨_, z⟩ | z | ⟨_, _, _, _, z⟩ <;> cases z
  have hM' : ∀ b, M8 F (L2.start N (.ref a :: ws)) (Sl.heap :: dats ds (N.length - (ds.length + 1))) b → m b := fun b z => by
    rcases z with z | ⟨x, y, z, z2⟩ | z
    · exact absurd z (noO b)
    · cases z
      rcases z2 with e | e
      · rw [e]; exact ma
      · rw [e]; exact mc
    · by_cases hb : m b ∧ b ≠ a ∧ b ≠ c
      · exact hb.1
      · exact absurd (if_neg hb) z
  have s0 : St8 F (Sl.heap :: dats ds (N.length - (ds.length + 1))) (L2.start N (.ref a :: ws)) H := by
    refine ⟨?_, fun x y e => (by cases e; exact hsrc), fun b o e => ?_, fun b z => absurd z (noO b), fun b ⟨x, y, z, z2⟩ => ?_, fun i j b di dj e1 => ?_, fun b z => absurd z (noO b), fun b o _ e => e, fun i d e => ?_, fun i es e => ?_, fun i e => ?_, fun p hp => (by cases hp)⟩
    · rw [start_len, List.length_cons, List.length_cons, hd.length]; unfold dats; simp; omega
    · have e' : (if m b ∧ b ≠ a ∧ b ≠ c then H b else none) = some o := e
      split at e'
      · exact e'
      · cases e'
    · cases z
      show (if m b ∧ b ≠ a ∧ b ≠ c then H b else none) = none
      rw [if_neg]
      rintro ⟨_, n1, n2⟩
      exact z2.elim n1 n2
    · rcases get e1 with ⟨_, z⟩ | z | ⟨_, _, _, _, z⟩ <;> cases z
    · rcases get e with ⟨_, z⟩ | z | ⟨j, d', e1, h1, z⟩
      · cases z
      · cases z
      · cases z
        subst e1
        obtain ⟨v, h2, h3⟩ := hd.get h1
        exact ⟨v, start_get (by simpa using h2), Dt.mono (mask_less hM') _ _ h3⟩
    · rcases get e with ⟨_, z⟩ | z | ⟨_, _, _, _, z⟩ <;> cases z
    · rcases get e with ⟨e0, z⟩ | z | ⟨_, _, _, _, z⟩
      · subst e0; exact ⟨a, c, rfl, start_get rfl⟩
      · cases z
      · cases z
  have ex : ∀ {ρ : List Sl} {σ : L2.St} {H' : Hp}, St8 F ρ σ H' → ∀ b o, b ≠ a → b ≠ c → H b = some o → H' b = some o := fun {ρ σ H'} s b o n1 n2 e => s.ex b o (fun ⟨x, y, z, z2⟩ => by cases z; exact z2.elim n1 n2) e
  refine hs F _ _ H _ _ (hw ds P hS) s0 ⟨fun ρ σ H' p s => q _ _ H' p (s.src a c rfl) (ex s) .non, fun ρ σ H' v d p s hd => q v d H' p (s.src a c rfl) (ex s) (Dt.mono (mask_less hM) _ _ hd), fun ρ σ H' p s => p.elim, fun ρ σ H' p s => p.elim⟩
/-! a written dict looked up at once: {"..": "..", ..}[..] -/
def wDict3 (k1 v1 k2 v2 k3 v3 : Str) (we : WE) : WE := fun ρ P => we ρ fun d => (d = .str k1 ∧ P (.str v1)) ∨ (d = .str k2 ∧ P (.str v2)) ∨ (d = .str k3 ∧ P (.str v3))
theorem snd_dict3 {k1 v1 k2 v2 k3 v3 : Str} {te : TE} {we : WE} (n12 : k1 ≠ k2) (n13 : k1 ≠ k3) (n23 : k2 ≠ k3) (h : SndE te we) :
    SndE (tDGet (tDisp [(tC (.str k1), tC (.str v1)), (tC (.str k2), tC (.str v2)), (tC (.str k3), tC (.str v3))]) te) (wDict3 k1 v1 k2 v2 k3 v3 we) := fun F ρ σ H P Q p s q => by
  intro a ha
  refine ⟨upd_same, [(.inr k1, .str v1), (.inr k2, .str v2), (.inr k3, .str v3)], rfl, (show 3 ≤ 15 by decide), ?_⟩
  rw [upd_upd]
  have s1 := s.lay (o := .dK (mergeK [] [((.inr k1 : Key), V.str v1), (.inr k2, .str v2), (.inr k3, .str v3)])) ha
  have nm := not_m (s.newM ha)
  refine h _ ρ σ _ _ _ p s1 fun v d H2 p2 s2 d2 => ?_
  have e2 : H2 a = some (.dK (mergeK [] [((.inr k1 : Key), V.str v1), (.inr k2, .str v2), (.inr k3, .str v3)])) := s2.fz a _ upd_same
  have look : ∀ j, valV (mergeK [] [((.inr k1 : Key), V.str v1), (.inr k2, .str v2), (.inr k3, .str v3)]) (.inr j) = if j = k3 then some (.str v3) else if j = k2 then some (.str v2) else if j = k1 then some (.str v1) else none := fun j => by
    unfold mergeK
    rw [List.foldl_cons, List.foldl_cons, List.foldl_cons, List.foldl_nil, valV_put, valV_put, valV_put, valV_nil]
    simp only [Sum.inr.injEq]
  have fin : ∀ k x, d = .str k → valV (mergeK [] [((.inr k1 : Key), V.str v1), (.inr k2, .str v2), (.inr k3, .str v3)]) (.inr k) = some (.str x) → P (.str x) → ∃ b w, V.ref a = .ref b ∧ DGet H2 b v (some w) ∧ Q w H2 := fun k x e1 e3 e4 => by
    subst e1
    have ev := d2.strI
    subst ev
    exact ⟨a, .str x, rfl, by rw [← e3]; exact DGet.k (k := .inr k) e2, q _ _ H2 e4 (s2.melt nm) (.str x)⟩
  rcases p2 with ⟨e, p3⟩ | ⟨e, p3⟩ | ⟨e, p3⟩
  · exact fin k1 v1 e (by rw [look, if_neg n13, if_neg n12, if_pos rfl]) p3
  · exact fin k2 v2 e (by rw [look, if_neg n23, if_pos rfl]) p3
  · exact fin k3 v3 e (by rw [look, if_pos rfl]) p3
end D8
/-! D8: derivations' short words: built-ins, own defs called. -/
namespace D8
open PySem PySem.Spec PyProof.Rows L2

/-- the built-ins' names are not bound by the module -/
structure Bi (mg : Str → Option Value) : Prop where
  len : mg "len" = none
  min : mg "min" = none
  max : mg "max" = none
  sorted : mg "sorted" = none
  tuple : mg "tuple" = none
  list : mg "list" = none
  int : mg "int" = none
  all : mg "all" = none
  any : mg "any" = none
  abs : mg "abs" = none
  repr : mg "repr" = none
  set : mg "set" = none
  range : mg "range" = none
theorem bo_len : bootBuiltins "len" = some (.builtin "len") := by decide +kernel
theorem bo_min : bootBuiltins "min" = some (.builtin "min") := by decide +kernel
theorem bo_max : bootBuiltins "max" = some (.builtin "max") := by decide +kernel
theorem bo_sorted : bootBuiltins "sorted" = some (.builtin "sorted") := by decide +kernel
theorem bo_all : bootBuiltins "all" = some (.builtin "all") := by decide +kernel
theorem bo_any : bootBuiltins "any" = some (.builtin "any") := by decide +kernel
theorem bo_abs : bootBuiltins "abs" = some (.builtin "abs") := by decide +kernel
theorem bo_repr : bootBuiltins "repr" = some (.builtin "repr") := by decide +kernel
theorem bo_tuple : bootBuiltins "tuple" = some (.type "tuple") := by decide +kernel
theorem bo_list : bootBuiltins "list" = some (.type "list") := by decide +kernel
theorem bo_int : bootBuiltins "int" = some (.type "int") := by decide +kernel
theorem bo_set : bootBuiltins "set" = some (.type "set") := by decide +kernel
section
variable {X : Cx}
theorem k_len : CallR X (.builtin "len") (rLen8 X.K) := call_len_seq
theorem k_min2 (hc : X.calm = true) : CallR X (.builtin "min") rMin8 := call_min2 hc
theorem k_max2 (hc : X.calm = true) : CallR X (.builtin "max") rMax8 := call_max2 hc
theorem k_tuple : CallR X (.type "tuple") (rTupOf X.K) := call_tuple_of
theorem k_list : CallR X (.type "list") (rListOf X.K) := call_list_of
theorem k_int : CallR X (.type "int") rInt8 := call_int1
theorem room65 {k : Nat} {A : Around} (r : Room k A) : A.units + 65 < cLine := by have := r.un; omega
theorem room1 {k : Nat} {A : Around} (r : Room k A) : A.units + 1 < cLine := by have := r.un; omega
end

/-- a def that may be called -/
def Cal (P : Program) (w : World) (K : PySem.W.Frag) (mg : Str → Option Value) (base : Heap) (x : Str) (ps : List Str) (k : Nat) (sp : Sp) : Prop :=
  ∃ (f : Addr) (fd : FuncData), FnOk P w K mg base CX0 k f fd ps sp ∧ mg x = some (.ref f) ∧ PySem.W.keepIn K (.ref f) = true ∧ Binds K fd ps []
section
variable {P : Program} {w : World} {K : PySem.W.Frag} {mg : Str → Option Value} {base : Heap} {ps : List Str} {k j : Nat} {sp sp' : Sp}
theorem Cal.mono {x : Str} (c : Cal P w K mg base x ps j sp) (h : j ≤ k) : Cal P w K mg base x ps k sp := by
  obtain ⟨f, fd, F, r⟩ := c
  exact ⟨f, fd, F.mono h, r⟩
end
section
variable {X : Cx} {x : Str} {ps : List Str} {j k : Nat} {sp : Sp} {e : Expr} {es : List Expr} {t : TA} {p pos : Pos}
theorem pe_cal (c : Cal X.prog X.w X.K X.mg X.base x ps k sp) (hr : Room k X.A) (hg : Gl X x)
    (ha : PA X (e :: es) t) (hdb : (x == ("__debug__" : Str)) = false := by decide) (he : starEach (e :: es) X.env = (false, eval e X.env) :: starEach es X.env := by rfl) (hpl : (backTo pos (starEach es X.env)).any (·.1) = false := by rfl) :
    PE X (.Call (.Name x p) (e :: es) [] pos) (tCall sp [] E0 t) := by
  obtain ⟨f, fd, F, h1, h2, h3⟩ := c
  exact pe_call F hr hg h1 h2 h3 .nil pass0 ha hdb he hpl
/-- f(a = .., b = ..), by keywords alone; two parameters, given the other way round -/
def Cal2 (P : Program) (w : World) (K : PySem.W.Frag) (mg : Str → Option Value) (base : Heap) (x a b : Str) (k : Nat) (sp : Sp) : Prop :=
  ∃ (f : Addr) (fd : FuncData), FnOk P w K mg base CX0 k f fd [a, b] sp ∧ mg x = some (.ref f) ∧ PySem.W.keepIn K (.ref f) = true ∧ ∀ (s : Shared) (u v : Value), BindsTo s fd ⟨[], [(b, v), (a, u)]⟩ [(a, u), (b, v)]
def tCal2 (sp : Sp) (tb ta : TE) : TE := fun σ H Q => tb σ H fun v H1 => ta σ H1 fun u H2 => ∃ v' u', [v, u] = [v', u'] ∧ sp [u', v'] H2 Q E0
theorem pe_cal2 {a b : Str} {ea eb : Expr} {ta tb : TE} {p1 p2 : Pos} (c : Cal2 X.prog X.w X.K X.mg X.base x a b k sp) (hr : Room k X.A) (hg : Gl X x) (hb : PE X eb tb) (ha : PE X ea ta)
    (hall : (backToKw pos (keywordEach [⟨some b, eb, p1⟩, ⟨some a, ea, p2⟩] X.env)).all (·.1.isSome) = true := by rfl) (hks : (backToKw pos (keywordEach [⟨some b, eb, p1⟩, ⟨some a, ea, p2⟩] X.env)).filterMap (·.1) = [b, a] := by rfl)
    (hdb : (x == ("__debug__" : Str)) = false := by decide) (hpl : ((backTo pos (starEach [] X.env)).any (·.1) || (backToKw pos (keywordEach [⟨some b, eb, p1⟩, ⟨some a, ea, p2⟩] X.env)).any (·.1.isNone)) = false := by rfl) :
    PE X (.Call (.Name x p) [] [⟨some b, eb, p1⟩, ⟨some a, ea, p2⟩] pos) (tCal2 sp tb ta) := by
  obtain ⟨f, fd, F, h1, h2, h3⟩ := c
  have hkw : PK X [⟨some b, eb, p1⟩, ⟨some a, ea, p2⟩] (tCons tb (tCons ta tNil)) := pk_cons hb (pk_cons ha pk_nil)
  refine ⟨fun pins s σ H Q I h => wpAny_Call_Name_kw (ld_glob I hg h1 ?_ hdb)⟩
  refine PySem.W.callWith_KW0 (h₀ := X.base) I.ok.mod.kin h2 hall (thn (hkw.run pos pins s σ H (fun vs H' => ∃ v u, vs = [v, u] ∧ sp [u, v] H' Q E0) I ?_) fun ws s2 ⟨zs, H2, I2, rz, q2⟩ => ⟨I2.kIn, ?_⟩) hpl
  · exact h
  · obtain ⟨v, u, e1, q3⟩ := q2
    subst e1
    rw [hks]
    obtain ⟨v', u', ew, r1, r3⟩ : ∃ v' u', ws = [v', u'] ∧ L2.RelV v v' ∧ L2.RelV u u' := by
      cases rz with
      | cons r1 r2 =>
        cases r2 with
        | cons r3 r4 => cases r4; exact ⟨_, _, rfl, r1, r3⟩
    subst ew
    refine wpAny_call (codeAny_mono (F.run X.A X.stack s2 H2 ⟨[], [(b, v'), (a, u')]⟩ [u', v'] [u, v] Q E0 hr I2.env0 (h3 s2 u' v') (.cons r3 (.cons r1 .nil)) q3) fun r s' hq => ?_)
    cases r with
    | error e => exact hq.elim
    | ok fl =>
      cases fl with
      | ret u => exact I2.after hq
      | next => exact False.elim hq
      | brk => exact False.elim hq
      | cont => exact False.elim hq
end
def wCal2 (S : S8) (wb wa : WE) : WE := fun ρ P => wb ρ fun y => wa ρ fun x => S [x, y] P
theorem snd_cal2 {S : S8} {ta tb : TE} {wa wb : WE} (hb : SndE tb wb) (ha : SndE ta wa) : SndE (tCal2 (spP S) tb ta) (wCal2 S wb wa) := fun F ρ σ H P Q p s q =>
  hb F ρ σ H _ _ p s fun v d H1 p1 s1 d1 => ha (F.pin v d) ρ σ H1 _ _ p1 (s1.pin d1) fun u e H2 p2 s2 d2 =>
    ⟨v, u, rfl, M8 F σ ρ, [e, d], P, s2.al, .cons d2 (.cons s2.pinned .nil), p2, fun z f H3 p3 e3 d3 => q z f H3 p3 (s2.unpin.keep e3) d3⟩
/-- a promise's number of arguments -/
theorem len_P {S : S8} {n : Nat} (h : ∀ ds P, S ds P → ds.length = n) (vs : List V) (H : Hp) (Q : VK) (E : XK) (q : spP S vs H Q E) : vs.length = n := by
  obtain ⟨m, ds, P, _, h1, h2, _⟩ := q
  rw [h1.length]; exact h ds P h2
theorem len_H {S : S8} {n : Nat} (h : ∀ ds P, S ds P → ds.length + 1 = n) (vs : List V) (H : Hp) (Q : VK) (E : XK) (q : spH S vs H Q E) : vs.length = n := by
  obtain ⟨m, a, c, ws, ds, P, e, _, _, _, _, h1, h2, _⟩ := q
  rw [e, List.length_cons, h1.length]; exact h ds P h2
/-- .. a stronger wish is granted by a weaker promise -/
theorem spP_imp {S S' : S8} (h : ∀ ds P, S' ds P → S ds P) (vs : List V) (H : Hp) (Q : VK) (E : XK) (q : spP S' vs H Q E) : spP S vs H Q E := by
  obtain ⟨m, ds, P, h1, h2, h3, h4⟩ := q
  exact ⟨m, ds, P, h1, h2, h ds P h3, h4⟩
end D8
/-! D8: len(set(a list of texts)), repr. -/
namespace D8
open PySem PySem.Spec PyProof.Rows L2

/-! ### texts without the later twins -/
def dd1 (acc : List Str) (x : Str) : List Str := if acc.any (· == x) = true then acc else acc ++ [x]
def dd (xs : List Str) : List Str := xs.foldl dd1 []
theorem dd_snoc (xs : List Str) (x : Str) : dd (xs ++ [x]) = dd1 (dd xs) x := by unfold dd; rw [List.foldl_append] <;> rfl
theorem dd1_any (acc : List Str) (x z : Str) : (dd1 acc x).any (· == z) = (acc.any (· == z) || decide (z = x)) := by
  unfold dd1
  by_cases q : acc.any (· == x) = true
  · rw [if_pos q]
    by_cases e : z = x
    · rw [e, q]; simp
    · rw [decide_eq_false e, Bool.or_false]
  · rw [if_neg q, List.any_append, List.any_cons, List.any_nil, Bool.or_false]
    congr 1
    by_cases e : z = x
    · rw [e, decide_eq_true rfl]; exact beq_self_eq_true x
    · rw [decide_eq_false e]; exact beq_eq_false_iff_ne.mpr fun z' => e z'.symm
theorem dd1_len (acc : List Str) (x : Str) : (dd1 acc x).length = if acc.any (· == x) = true then acc.length else acc.length + 1 := by
  unfold dd1
  split <;> simp
theorem dd_le (xs : List Str) : (dd xs).length ≤ xs.length := by
  have go : ∀ (ys acc : List Str), (ys.foldl dd1 acc).length ≤ acc.length + ys.length := by
    intro ys
    induction ys with
    | nil => intro acc; exact Nat.le_refl _
    | cons y ys ih =>
      intro acc
      have h1 := ih (dd1 acc y)
      have h2 := dd1_len acc y
      rw [List.foldl_cons, List.length_cons]
      split at h2 <;> omega
  have h := go xs []
  rw [List.length_nil, Nat.zero_add] at h
  exact h

section
variable {prog : Program} {w : World} {A : Around} {R : Result → Shared → Prop} {it : Addr} {fp wr : List Addr} {G : Array GenState → Array GenState → Prop} {n : Nat} {P : Nat → Value → Prop} {At : Nat → Shared → Prop}
/-- what stands at D after i items -/
abbrev Has (prog : Program) (w : World) (h : Heap) (D : Addr) (xs : List Str) (i : Nat) : Prop := h.SetOf (PySem.strKind prog w) D (fun z => (dd (xs.take i)).any (· == z)) (dd (xs.take i)).length
theorem has_at {h h' : Heap} {D : Addr} {xs : List Str} {i : Nat} (q : Has prog w h D xs i) (e : ∀ o, h.get? D = some o → h'.get? D = some o) : Has prog w h' D xs i := by
  obtain ⟨o, a, b, c, ho, r⟩ := q
  exact ⟨o, a, b, c, e o ho, r⟩
theorem fill_texts (W : WalksS prog w A.in1 it fp wr G n P At) (D : Addr) (nD : D ∉ fp) (xs : List Str) (hn : xs.length = n) (hb : n + 1 < scanBound) (hv : ∀ i v, P i v → ∃ t, v = .str (xs.getD i Str.empty) t) :
    ∀ (m i : Nat) (s : Shared), i + m = n → At i s → Has prog w s.heap D xs i →
      (∀ s', Moved (D :: wr) G s s' → Has prog w s'.heap D xs n → R (.ok (.ret .none)) s') →
      codeAny (model prog w) A (.builtin "set.update.loop" ⟨[.ref D, .ref it], []⟩) R s := by
  have nW : D ∉ wr := fun z => nD (W.sub _ z)
  have up : ∀ b ∈ wr, b ∈ D :: wr := fun b => List.mem_cons_of_mem _
  intro m
  induction m with
  | zero =>
    intro i s e1 e2 q k
    obtain rfl : i = n := e1
    refine codeAny_builtin PyProof.Rows.F.entry_set_update_loop ?_
    rw [Around.under_plainId PyProof.Rows.F.plain_set_update_loop _]
    exact wpAny_bind (W.done s _ _ e2 fun s' mv => wpAny_pure (k s' (mv.mono up) (has_at q fun o ho => mv.heap D o nW ho)))
  | succ m ih =>
    intro i s e1 e2 q k
    have hi : i < n := by omega
    refine codeAny_builtin PyProof.Rows.F.entry_set_update_loop ?_
    rw [Around.under_plainId PyProof.Rows.F.plain_set_update_loop _]
    refine wpAny_bind (W.item i s _ _ hi e2 fun v s' hp e3 mv => ?_)
    obtain ⟨t, rfl⟩ := hv i v hp
    have q' : Has prog w s'.heap D xs i := has_at q fun o ho => mv.heap D o nW ho
    have room : (dd (xs.take i)).length + 1 < scanBound := by
      have l1 := dd_le (xs.take i)
      have l2 : (xs.take i).length ≤ i := by rw [List.length_take]; exact Nat.min_le_left _ _
      omega
    have et : xs.take (i + 1) = xs.take i ++ [xs.getD i Str.empty] := by
      have hi' : i < xs.length := by omega
      rw [List.take_add_one, List.getElem?_eq_getElem hi', List.getD_eq_getElem?_getD, List.getElem?_eq_getElem hi'] <;> rfl
    show wpAny _ A.in1 (holding [Value.str (xs.getD i Str.empty) t] (setAdd D (.str (xs.getD i Str.empty) t)) >>= _) _ _ s'
    refine wpAny_bind (wpAny_holding ?_)
    unfold setAdd
    refine wpAny_holding (wpAny_bind ((PySem.strKind prog w).pyHash (k := xs.getD i Str.empty) (strKind_is _ _ _ _) ?_))
    refine wpAny_setAddHashed_of (knd := PySem.strKind prog w) (s := { s' with toks := s'.toks + 1 }) (strKind_is _ _ _ _) rfl q' room fun h2 only q2 => ?_
    have q3 : Has prog w h2 D xs (i + 1) := PyProof.Rows.SetOf_congr q2 (fun z => by rw [et, dd_snoc, dd1_any]) (by rw [et, dd_snoc, dd1_len])
    refine wpAny_pure ⟨plainId_quiet PyProof.Rows.F.plain_set_update_loop _, ih (i + 1) _ (by omega) (W.frame _ s' _ _ e3 (Nat.le_succ _) fun b hb o e => ?_) q3 fun s2 mv2 q4 => k s2 (Moved.trans W.gtrans ((mv.mono up).then_heap (Nat.le_succ _) fun b o hb e => ?_) mv2) q4⟩
    · exact (only.2 b (fun z => nD (by rw [← z]; exact hb))).trans e
    · exact (only.2 b (fun z => hb (by rw [z]; exact List.mem_cons_self))).trans e
end

section
variable {prog : Program} {w : World} {A : Around} {E : Value → Shared → Prop} {s : Shared}
abbrev nwS (b : Bool) : Obj := { cls := .type "set", dict := none, data := .set #[] 0 (.fresh 0 0 b) }
/-- set(l), l a list of texts -/
theorem set_of_texts {l : Addr} {items : Array Value} {xs : List Str} {Q : Value → Shared → Prop} (hh : A.handled = none) (hl : s.heap.IsList l items) (hi : PyProof.Rows.StrsAre items.toList xs) (hb : xs.length + 1 < scanBound)
    (k : ∀ (h' : Heap) (tk : Nat), Has prog w h' s.heap.objs.size xs xs.length → (∀ b o, b < s.heap.objs.size → s.heap.get? b = some o → h'.get? b = some o) → Q (.ref s.heap.objs.size) { s with heap := h', toks := tk }) :
    wpAny (model prog w) A (call (.type "set") [.ref l]) Q E s := by
  have len : xs.length = items.size := by rw [← StrsAre.len_eq hi, Array.length_toList]
  obtain ⟨c, tl, hmro⟩ := PySem.F.called_set.mro
  have z1 := PySem.F.called_set.made
  have z2 := PySem.F.called_set.sub
  have z3 := PySem.F.called_set.notType
  have z4 := PySem.F.called_set.canCreate
  have z5 := PySem.F.typeCall_set_1 (.ref l)
  refine wpAny_call (codeAny_of_tree (show wpAny _ _ (callAny (.type "set") _) _ _ _ from wpAny_pure ⟨Code.quiet_builtin _ (by decide +kernel), codeAny_builtin PySem.F.entry_type_call ?_⟩))
  rw [Around.under_plain (weight_type_call_type "set" [.ref l] []) rfl]
  repeat (any_goals (first | assumption | wp_step))
  refine codeAny_mono (code_set_new_1 (.ref l) (E := E) (Q₁ := fun v s1 => ∃ b : Bool, v = .ref s.heap.objs.size ∧ s1 = { s with heap := s.heap.push { cls := .type "set", dict := none, data := .set #[] 0 (.fresh 0 0 b) } }) fun b => ⟨b, rfl, rfl⟩) fun r s1 q => ?_
  cases r with
  | error e => exact q
  | ok fl =>
  cases fl with
  | ret v =>
    obtain ⟨b, rfl, rfl⟩ := q
    have got : (s.heap.push (nwS b)).get? s.heap.objs.size = some (nwS b) := Heap.get?_push_size _ rfl
    have tid : Shared.TypeIs { s with heap := s.heap.push (nwS b) } (.ref s.heap.objs.size) "set" := ⟨nwS b, got, rfl⟩
    have y1 := PySem.F.called_set.init.lookup
    have y2 := PySem.F.called_set.init.bind (.ref s.heap.objs.size)
    repeat (any_goals (first | assumption | wp_step))
    refine codeAny_mono (codeAny_call_builtin (R := wants (fun r s2 => r = .none ∧ ∃ h' tk, s2 = { s with heap := h', toks := tk } ∧ Has prog w h' s.heap.objs.size xs xs.length ∧
      (∀ b o, b < s.heap.objs.size → s.heap.get? b = some o → h'.get? b = some o)) E) PySem.F.called_set.init.plain PySem.F.entry_set_init (check_set_init_1 tid ?_)) fun r2 s2 q2 => ?_
    · obtain ⟨⟨oc, od, odt, osl⟩, hol, hc, nl, hd⟩ := hl
      obtain rfl : oc = .type "list" := hc
      obtain rfl : odt = .seq items nl := hd
      have lt : l < s.heap.objs.size := Heap.lt_size hol
      have hol2 : (s.heap.push (nwS b)).get? l = some ⟨.type "list", od, .seq items nl, osl⟩ := Heap.get?_push_of_some _ hol
      have isl : (s.heap.push (nwS b)).IsList l items := ⟨_, hol2, rfl, nl, rfl⟩
      have x1 := PySem.F.sub_list_set
      have x2 := PySem.F.sub_list_frozenset
      have x3 : (Value.type "list" == Value.type "dict") = false := by decide
      unfold Builtin.«set.__init__» noKeywords Builtin.Frozenset.updateFrom
      generalize hPI : pyIter = PI
      wp_walk
      subst hPI
      refine wpAny_pyIter_list isl ?_
      refine wpAny_bind (wpAny_runValue ?_)
      have calm : A.in1.in1.in1.handled = none := by simp [hh]
      have off : l ≠ (s.heap.push (nwS b)).objs.size := by rw [Heap.size_push]; exact Nat.ne_of_lt (Nat.lt_succ_of_lt lt)
      have offD : s.heap.objs.size ∉ [(s.heap.push (nwS b)).objs.size, l] := by
        rw [Heap.size_push]
        simp only [List.mem_cons, List.not_mem_nil, or_false, not_or]
        exact ⟨Nat.ne_of_lt (Nat.lt_succ_self _), Nat.ne_of_gt lt⟩
      have hv : ∀ (i : Nat) (v : Value), items[i]? = some v → ∃ t, v = .str (xs.getD i Str.empty) t := fun i v e => SS.strs_at hi i v (by rw [Array.getElem?_toList]; exact e)
      refine fill_texts ((Walks.list calm _ l off items).toS) s.heap.objs.size offD xs len (by omega) hv items.size 0 _ (Nat.zero_add _) ⟨⟨_, Heap.get?_push_size _ rfl, rfl, rfl⟩, isl.push _⟩ ?_ fun s' mv q => ?_
      · have got2 : ((s.heap.push (nwS b)).push { cls := .type "list_iterator", data := .fields #[.ref l, .int 0 0] }).get? s.heap.objs.size = some (nwS b) := Heap.get?_push_of_some _ got
        exact PyProof.Rows.SetOf_congr ((PyProof.Rows.setObjOf_fresh (knd := PySem.strKind prog w) b).setOf got2 (by unfold scanBound; omega)) (fun _ => rfl) rfl
      · obtain ⟨h', g', d', tk', os'⟩ := s'
        obtain rfl : g' = s.gens := mv.gens
        obtain rfl : d' = s.drawn := mv.drawn
        obtain rfl : os' = s.os := mv.os
        refine wpAny_pure (show wpAny _ _ (ret Value.none) _ _ _ from wpAny_pure ⟨rfl, h', tk', rfl, by rw [len]; exact q, fun b o hb e => mv.heap b o ?_ (Heap.get?_push_of_some _ (Heap.get?_push_of_some _ e))⟩)
        rw [Heap.size_push]
        simp only [List.mem_cons, List.not_mem_nil, or_false, not_or]
        exact ⟨Nat.ne_of_lt hb, Nat.ne_of_lt (Nat.lt_succ_of_lt hb)⟩
    · cases r2 with
      | error e => exact q2
      | ok f2 =>
      cases f2 with
      | ret v =>
        obtain ⟨rfl, h', tk, rfl, q3, q4⟩ := q2
        repeat (any_goals (first | assumption | wp_step))
        exact k _ _ q3 q4
      | _ => exact q2.elim
  | _ => exact q.elim
end
/-- len(set(xs)) -/
def tLenSet8 (ta : TE) : TE := fun σ H Q => ta σ H fun x H1 => ∃ (l : Addr) (xs : List Str), x = .ref l ∧ H1 l = some (.lst (xs.map V.str)) ∧ xs.length ≤ 1000 ∧ Q (.int (dd xs).length) H1
theorem pe_lenSet8 {X : Cx} {a : Expr} {ta : TE} {p p2 q pos : Pos} (hc : X.calm = true) (hg : Gl X "len") (hm : X.mg "len" = none) (hg2 : Gl X "set") (hm2 : X.mg "set" = none) (ha : PE X a ta)
    (na : starEach [a] X.env = (false, eval a X.env) :: starEach [] X.env := by rfl) : PE X (.Call (.Name "len" p) [.Call (.Name "set" p2) [a] [] q] [] pos) (tLenSet8 ta) := by
  refine ⟨fun pins s σ H Q I h => Call_ (ld_blt I hg hm boot_len (PyProof.Rows.callWith_builtin1 (PyProof.Rows.args_cons ?_ rfl) rfl rfl))⟩
  refine Call_ (ld_blt I hg2 hm2 boot_set (PyProof.Rows.callWith_type1 (PyProof.Rows.args_cons (thn (ha.run pins s σ H _ I h) fun v s1 ⟨x, H1, I1, r1, q1⟩ => PyProof.Rows.args_nil ?_) na) na rfl))
  obtain ⟨l, xs, rfl, hq, h1, q1⟩ := q1
  cases r1
  obtain ⟨its, r, pl, hz⟩ := I1.list (SqL.of hq)
  refine set_of_texts (I1.ok.hd hc) pl.isList (by simpa using strsAre_of r) (by unfold scanBound; omega) fun h' tk hS hk => ?_
  refine PyProof.Rows.args_nil ?_
  unfold Has at hS
  rw [List.take_length] at hS
  obtain ⟨o, es, ep, t, ho, hex, hd, _, _, _, hf, hn⟩ := hS
  have I2 : L2.Inv X pins σ H1 { s1 with heap := h', toks := tk } := I1.kept fun b o e => hk b o (Heap.lt_size e) e
  have le := dd_le xs
  exact call_len_set ho hex hd hf (by rw [hn]; omega) ⟨.int (dd xs).length, H1, I2.tok _, ⟨_, by rw [hn]⟩, q1⟩
def wLenSet8 (wa : WE) : WE := fun ρ P => wa ρ fun d => ∃ xs : List Str, d = .list (xs.map .str) ∧ xs.length ≤ 1000 ∧ P (.int (dd xs).length)
theorem snd_lenSet8 {ta : TE} {wa : WE} (h : SndE ta wa) : SndE (tLenSet8 ta) (wLenSet8 wa) := fun F ρ σ H P Q p s q =>
  h F ρ σ H _ _ p s fun v d H1 ⟨xs, e, hl, p1⟩ s1 d1 => by
    subst e
    cases d1 with
    | lst h1 h2 =>
      have e := dts_strs h2
      subst e
      exact ⟨_, xs, rfl, mask_sub _ _ h1, hl, q _ _ H1 p1 s1 (.int _)⟩

/-! ### repr -/
/-- of a bool, of a text -/
def rRepr1 : List V → Hp → VK → Prop := fun xs H Q => (∃ b, xs = [.bl b] ∧ Q (.str (if b then "True" else "False")) H) ∨ ∃ z, xs = [.str z] ∧ (reprText z).length ≤ sizeLine ∧ Q (.str (reprText z)) H
theorem k_repr1 {X : Cx} : CallR X (.builtin "repr") rRepr1 := by
  intro pins s σ H xs us Q I r h
  rcases h with ⟨b, rfl, q⟩ | ⟨z, rfl, hz, q⟩
  · cases r with
    | cons r1 r2 =>
      cases r2
      cases r1
      exact PySem.P.repr_of_bool ⟨.str _, H, I.tok _, ⟨_, rfl⟩, q⟩
  · cases r with
    | cons r1 r2 =>
      cases r2
      obtain ⟨t, rfl⟩ := r1
      exact PySem.P.repr_of_str ⟨.str _, H, I.tok _, ⟨_, rfl⟩, q⟩ hz
def wRepr1 : WC := fun ds P => (∃ b, ds = [.bool b] ∧ P (.str (if b then "True" else "False"))) ∨ ∃ z, ds = [.str z] ∧ (reprText z).length ≤ sizeLine ∧ P (.str (reprText z))
theorem c_repr1 : SndC rRepr1 wRepr1 := fun m H xs ds P Q hw al hx q => by
  rcases hw with ⟨b, e, p⟩ | ⟨z, e, hz, p⟩
  · subst e; exact .inl ⟨b, dts_bools (ns := [b]) hx, q _ _ H p (ext_rfl H) (.str _)⟩
  · subst e; exact .inr ⟨z, dts_strs (ns := [z]) hx, hz, q _ _ H p (ext_rfl H) (.str _)⟩
/-- of data, where no repr is under way -/
def rRepr8 (K : PySem.W.Frag) : List V → Hp → VK → Prop := fun xs H Q => ∃ v d, xs = [v] ∧ Dp K H v d ∧ (∃ es, d = .tuple es) ∧ d.showable = true ∧ d.hasDict = false ∧ d.depth ≤ 60 ∧ d.shown.length ≤ sizeLine ∧ Q (.str d.shown) H
theorem k_repr {X : Cx} {k : Nat} (hr : Room k X.A) (hg : X.A.guards = some []) : CallR X (.builtin "repr") (rRepr8 X.K) := by
  intro pins s σ H xs us Q I r h
  obtain ⟨v, d, rfl, hd, ⟨es, rfl⟩, h1, h2, h3, h4, q⟩ := h
  cases r with
  | cons r1 r2 =>
    cases r2
    rename_i u
    obtain ⟨as, hR⟩ := Dp.reads I _ v u hd r1
    cases hd
    cases r1
    have hu := hr.units
    exact repr_of_reads' hR h1 (fun z => by rw [h2] at z; cases z) hg (by omega) (fun b o e => e) (fun h' u tk hk => ⟨.str _, H, I.kept (t' := tk) hk, ⟨_, rfl⟩, q⟩) h4
def wRepr8 : WC := fun ds P => ∃ es, ds = [.tuple es] ∧ (PyData.tuple es).showable = true ∧ (PyData.tuple es).hasDict = false ∧ (PyData.tuple es).depth ≤ 60 ∧ (PyData.tuple es).shown.length ≤ sizeLine ∧ P (.str (PyData.tuple es).shown)
theorem c_repr {K : PySem.W.Frag} : SndC (rRepr8 K) wRepr8 := fun m H xs ds P Q ⟨es, e, h1, h2, h3, h4, p⟩ al hx q => by
  subst e
  cases hx with
  | cons a1 a2 =>
    cases a2
    exact ⟨_, _, rfl, (Dt.mono mask_sub _ _ a1).dp, ⟨es, rfl⟩, h1, h2, h3, h4, q _ _ H p (ext_rfl H) (.str _)⟩
end D8
/-! D8: a dict of the def's own, text keys. -/
namespace D8
open PySem PySem.Spec PyProof.Rows L2

def look8 (ks : List (Str × PyData)) (n : Str) : Option PyData := (ks.find? fun p => p.1 == n).map (·.2)
def put8 (ks : List (Str × PyData)) (n : Str) (x : PyData) : List (Str × PyData) := if (ks.any fun p => p.1 == n) = true then ks.map (fun p => if p.1 = n then (p.1, x) else p) else ks ++ [(n, x)]
/-- the pairs of a dict and its data -/
def Prs (G : Hp) (kvs : List (Key × V)) (ks : List (Str × PyData)) : Prop := kvs.map (·.1) = ks.map (fun p => (Sum.inr p.1 : Key)) ∧ Dts G (kvs.map (·.2)) (ks.map (·.2))
theorem prs_cons {G : Hp} {p : Key × V} {q : Str × PyData} {kvs : List (Key × V)} {ks : List (Str × PyData)} (h : Prs G (p :: kvs) (q :: ks)) : p.1 = .inr q.1 ∧ Dt G p.2 q.2 ∧ Prs G kvs ks := by
  obtain ⟨h1, h2⟩ := h
  rw [List.map_cons, List.map_cons] at h1 h2
  cases h2 with
  | cons h3 h4 => exact ⟨(List.cons.inj h1).1, h3, (List.cons.inj h1).2, h4⟩
theorem prs_mk {G : Hp} {p : Key × V} {q : Str × PyData} {kvs : List (Key × V)} {ks : List (Str × PyData)} (e : p.1 = .inr q.1) (d : Dt G p.2 q.2) (h : Prs G kvs ks) : Prs G (p :: kvs) (q :: ks) :=
  ⟨by rw [List.map_cons, List.map_cons, e, h.1], .cons d h.2⟩
theorem prs_nil {G : Hp} : Prs G [] [] := ⟨rfl, .nil⟩
theorem prs_len {G : Hp} {kvs : List (Key × V)} {ks : List (Str × PyData)} (h : Prs G kvs ks) : kvs.length = ks.length := by
  have := congrArg List.length h.1
  simpa using this
theorem key_dec (a b : Str) : decide ((Sum.inr a : Key) = Sum.inr b) = (a == b) := by
  by_cases e : a = b
  · subst e; rw [decide_eq_true rfl]; exact (beq_self_eq_true a).symm
  · rw [decide_eq_false (fun z => e (Sum.inr.inj z))]; exact (beq_eq_false_iff_ne.mpr e).symm
theorem prs_look {G : Hp} : ∀ {kvs : List (Key × V)} {ks : List (Str × PyData)} (n : Str), Prs G kvs ks → (valV kvs (.inr n) = none ∧ look8 ks n = none) ∨ ∃ v x, valV kvs (.inr n) = some v ∧ look8 ks n = some x ∧ Dt G v x
  | [], [], n, _ => .inl ⟨rfl, rfl⟩
  | [], _ :: _, _, h => by have := prs_len h; simp at this
  | _ :: _, [], _, h => by have := prs_len h; simp at this
  | p :: kvs, q :: ks, n, h => by
    obtain ⟨h1, h2, h3⟩ := prs_cons h
    by_cases e : q.1 = n
    · refine .inr ⟨p.2, q.2, valV_pos (by rw [h1, e]), ?_, h2⟩
      unfold look8
      rw [List.find?_cons, e, beq_self_eq_true] <;> rfl
    · have e1 : valV (p :: kvs) (.inr n) = valV kvs (.inr n) := valV_neg (by rw [h1]; exact fun z => e (Sum.inr.inj z))
      have e2 : look8 (q :: ks) n = look8 ks n := by
        unfold look8
        rw [List.find?_cons, beq_eq_false_iff_ne.mpr e]
      rw [e1, e2]
      exact prs_look n h3
theorem prs_any {G : Hp} (n : Str) : ∀ {kvs : List (Key × V)} {ks : List (Str × PyData)}, Prs G kvs ks → (kvs.any fun kv => decide (kv.1 = .inr n)) = ks.any fun p => p.1 == n
  | [], [], _ => rfl
  | [], _ :: _, h => by have := prs_len h; simp at this
  | _ :: _, [], h => by have := prs_len h; simp at this
  | p :: kvs, q :: ks, h => by
    obtain ⟨h1, h2, h3⟩ := prs_cons h
    rw [List.any_cons, List.any_cons, prs_any n h3, h1, key_dec]
theorem prs_map {G : Hp} (n : Str) {v : V} {x : PyData} (hv : Dt G v x) : ∀ {kvs : List (Key × V)} {ks : List (Str × PyData)}, Prs G kvs ks → Prs G (kvs.map fun kv => if kv.1 = .inr n then (kv.1, v) else kv) (ks.map fun p => if p.1 = n then (p.1, x) else p)
  | [], [], _ => prs_nil
  | [], _ :: _, h => by have := prs_len h; simp at this
  | _ :: _, [], h => by have := prs_len h; simp at this
  | p :: kvs, q :: ks, h => by
    obtain ⟨h1, h2, h3⟩ := prs_cons h
    rw [List.map_cons, List.map_cons]
    refine prs_mk ?_ ?_ (prs_map n hv h3)
    · by_cases e : q.1 = n
      · rw [if_pos e, if_pos (by rw [h1, e])]; exact h1
      · rw [if_neg e, if_neg (by rw [h1]; exact fun z => e (Sum.inr.inj z))]; exact h1
    · by_cases e : q.1 = n
      · rw [if_pos e, if_pos (by rw [h1, e])]; exact hv
      · rw [if_neg e, if_neg (by rw [h1]; exact fun z => e (Sum.inr.inj z))]; exact h2
theorem prs_app {G : Hp} {n : Str} {v : V} {x : PyData} (hv : Dt G v x) : ∀ {kvs : List (Key × V)} {ks : List (Str × PyData)}, Prs G kvs ks → Prs G (kvs ++ [(.inr n, v)]) (ks ++ [(n, x)])
  | [], [], _ => prs_mk rfl hv prs_nil
  | [], _ :: _, h => by have := prs_len h; simp at this
  | _ :: _, [], h => by have := prs_len h; simp at this
  | p :: kvs, q :: ks, h => by
    obtain ⟨h1, h2, h3⟩ := prs_cons h
    exact prs_mk h1 h2 (prs_app hv h3)
theorem prs_put {G : Hp} {n : Str} {v : V} {x : PyData} (hv : Dt G v x) {kvs : List (Key × V)} {ks : List (Str × PyData)} (h : Prs G kvs ks) : Prs G (putK kvs (.inr n) v) (put8 ks n x) := by
  unfold putK put8
  rw [prs_any n h]
  by_cases e : (ks.any fun p => p.1 == n) = true
  · rw [if_pos e, if_pos e]; exact prs_map n hv h
  · rw [if_neg e, if_neg e]; exact prs_app hv h

section
variable {K : PySem.W.Frag}
theorem own_dic {F : Fr8} {ρ : List Sl} {σ : L2.St} {H : Hp} (s : St8 F ρ σ H) {i : Nat} {ks : List (Str × PyData)} (e : ρ[i]? = some (.own (.dic ks))) : ∃ a kvs, σ[i]? = some (some (.ref a)) ∧ H a = some (.dK kvs) ∧ Prs (mask (M8 F σ ρ) H) kvs ks := by
  obtain ⟨a, _, h1, h2, kvs, rfl, h3, h4⟩ := s.own i _ e
  exact ⟨a, kvs, h1, h2, h3, h4⟩
/-- an item -/
def wDGet (i : Nat) (wy : WE) : WE := fun ρ P => (∃ ks, ρ[i]? = some (.own (.dic ks))) ∧ wy ρ fun d => ∃ ks n x, ρ[i]? = some (.own (.dic ks)) ∧ d = .str n ∧ look8 ks n = some x ∧ P x
theorem snd_dget {i : Nat} {ty : TE} {wy : WE} (h : SndE ty wy) : SndE (tDGet (tVar i) ty) (wDGet i wy) := fun F ρ σ H P Q ⟨⟨ks0, e0⟩, p⟩ s q => by
  obtain ⟨a, _, h1, _, _⟩ := own_dic s e0
  refine ⟨.ref a, h1, h F ρ σ H _ _ p s fun v d H1 ⟨ks, n, x, e, ed, el, p1⟩ s1 d1 => ?_⟩
  subst ed
  have ev := d1.strI
  subst ev
  obtain ⟨a', kvs, g1, g2, g3⟩ := own_dic s1 e
  rw [h1] at g1
  cases g1
  rcases prs_look n g3 with ⟨_, z⟩ | ⟨w, y, z1, z2, z3⟩
  · rw [z] at el; cases el
  · rw [z2] at el
    cases el
    exact ⟨a, w, rfl, by rw [← z1]; exact DGet.k (k := .inr n) g2, q w _ H1 p1 s1 z3⟩
/-- key in rows -/
def wDIn (i : Nat) (wy : WE) : WE := fun ρ P => wy ρ fun d => ∃ ks n, ρ[i]? = some (.own (.dic ks)) ∧ d = .str n ∧ P (.bool (look8 ks n).isSome)
theorem snd_din {i : Nat} {ty : TE} {wy : WE} (h : SndE ty wy) : SndE (tDIn ty (tVar i)) (wDIn i wy) := fun F ρ σ H P Q p s q =>
  h F ρ σ H _ _ p s fun v d H1 ⟨ks, n, e, ed, p1⟩ s1 d1 => by
    subst ed
    have ev := d1.strI
    subst ev
    obtain ⟨a, kvs, g1, g2, g3⟩ := own_dic s1 e
    refine ⟨.ref a, g1, a, valV kvs (.inr n), rfl, DGet.k (k := .inr n) g2, ?_⟩
    rcases prs_look n g3 with ⟨z1, z2⟩ | ⟨w, y, z1, z2, z3⟩
    · rw [z1]; rw [z2] at p1; exact q _ _ H1 p1 s1 (.bl _)
    · rw [z1]; rw [z2] at p1; exact q _ _ H1 p1 s1 (.bl _)
/-- rows[key] = value -/
def wDPut (i : Nat) (wy wv : WE) : WS := fun E ρ => (∃ ks0, ρ[i]? = some (.own (.dic ks0))) ∧ wv ρ fun x => wy ρ fun d => ∃ ks n, ρ[i]? = some (.own (.dic ks)) ∧ d = .str n ∧ ks.length < 100000 ∧ E.nx (ρ.set i (.own (.dic (put8 ks n x))))
theorem s_dput {i : Nat} {ty tv : TE} {wy wv : WE} (hy : SndE ty wy) (hv : SndE tv wv) : SndS (sDPut (tVar i) ty tv) (wDPut i wy wv) := fun F ρ σ H D E ⟨⟨ks0, p0⟩, p⟩ s ag =>
  hv F ρ σ H _ _ p s fun v x H1 p1 s1 d1 => by
    have key : ∀ a, σ[i]? = some (some (.ref a)) → ty σ H1 fun y H3 => ∃ b H4, V.ref a = .ref b ∧ DPut H3 b y v H4 ∧ D.nx σ H4 := fun a ha =>
      hy (F.pin v x) ρ σ H1 _ _ p1 (s1.pin d1) fun y d H2 ⟨ks, n, e, ed, hl, p2⟩ s2 d2 => by
        subst ed
        have ev := d2.strI
        subst ev
        obtain ⟨b, kvs, g1, g2, g3⟩ := own_dic s2 e
        rw [ha] at g1
        cases g1
        refine ⟨a, _, rfl, .inl ⟨kvs, .inr n, g2, rfl, by rw [prs_len g3, sizeLine_eq]; omega, rfl⟩, ag.nx _ _ _ p2 ?_⟩
        have pr := prs_put (n := n) s2.pinned g3
        exact s2.unpin.alter (es := .dic (put8 ks n x)) e ha ⟨_, rfl, pr.1, pr.2⟩
    obtain ⟨a, _, ha, _, _⟩ := own_dic s p0
    exact ⟨_, ha, key a ha⟩
/-- sorted(rows) -/
def rSortD : List V → Hp → VK → Prop := fun xs H Q => ∃ (a : Addr) (kvs : List (Key × V)) (ks : List Str), xs = [.ref a] ∧ Rd H a (.dK kvs) ∧ kvs.map (·.1) = ks.map Sum.inr ∧ ks.length < 64 ∧ ∀ ys p, ys.Perm ks → sortedS ys = true → H p = none → Q (.ref p) (upd H p (.lst (ys.map V.str)))
theorem k_sortD {X : Cx} (hc : X.calm = true) : CallR X (.builtin "sorted") rSortD := call_sortedD hc
def wSortD (i : Nat) : WE := fun ρ P => ∃ ks : List (Str × PyData), ρ[i]? = some (.own (.dic ks)) ∧ ks.length < 64 ∧ ∀ ys : List Str, ys.Perm (ks.map (·.1)) → sortedS ys = true → P (.list (ys.map .str))
theorem snd_sortD {i : Nat} : SndE (tCB rSortD (tCons (tVar i) tNil)) (wSortD i) := fun F ρ σ H P Q ⟨ks, e, hl, p⟩ s q => by
  obtain ⟨a, kvs, g1, g2, g3⟩ := own_dic s e
  refine ⟨.ref a, g1, a, kvs, ks.map (·.1), rfl, .inl g2, ?_, by rw [List.length_map]; exact hl, fun ys t h1 h2 h3 => q _ _ _ (p ys h1 h2) (s.keep (ext_new h3)) (dt_lst s.al h3 (strs_dts ys))⟩
  rw [g3.1, List.map_map] <;> rfl
/-- {k: v for ..} -/
def wDc (wi : WA) (wg : WG) (wk wv : WE) (vs : List Nat) : List Sl → (List (Str × PyData) → Prop) → Prop := fun ρ P => wipeR ρ vs = ρ ∧ wi ρ fun ds => ds.length < 1000000 ∧ ∃ Iv : Nat → List (Str × PyData) → Prop, Iv 0 [] ∧
  (∀ i acc d, ds[i]? = some d → Iv i acc → wg d ρ fun ρ2 => wipeR ρ2 vs = ρ ∧ wk ρ2 fun y => wv ρ2 fun z => ∃ n, y = .str n ∧ Iv (i + 1) (put8 acc n z)) ∧ ∀ acc, Iv ds.length acc → P acc
theorem put8_len (ks : List (Str × PyData)) (n : Str) (x : PyData) : (put8 ks n x).length ≤ ks.length + 1 := by
  unfold put8
  split
  · rw [List.length_map]; omega
  · rw [List.length_append, List.length_singleton]; omega
def wOwnD (W : List Sl → (List (Str × PyData) → Prop) → Prop) (i : Nat) : WS := fun E ρ => W ρ fun ks => i < ρ.length ∧ E.nx (ρ.set i (.own (.dic ks)))
theorem s_dc {wi : TI} {Wi : WA} {g : TG} {wg : WG} {tk tv : TE} {wk wv : WE} {vs : List Nat} {j : Nat} (hi : SndI wi Wi) (hg : SndG g wg) (hin : TgIn g vs) (hk : SndE tk wk) (hv : SndE tv wv) :
    SndS (tAsg (tDc wi g tYes tk tv vs) (gName j)) (wOwnD (wDc Wi wg wk wv vs) j) := fun F ρ σ H DE E ⟨er, p⟩ s ag =>
  hi F ρ σ H _ _ p s fun ds J v d0 H1 ⟨hlen, Iv, h0, hs, hd⟩ s1 it a ha => by
    have nm : ¬ M8 (F.pin v d0) σ ρ a := s1.newM ha
    have nh : F.H0 a = none := s1.newH0 ha
    let Fz : List (Key × V) → List (Str × PyData) → Fr8 := fun kvs ks => ((F.pin v d0).pinAll (kvs.map (·.2)) (ks.map (·.2))).frz a (.dK kvs)
    refine ⟨fun i m H' => m = ds.length - i ∧ i ≤ ds.length ∧ ∃ ks kvs, Iv i ks ∧ ks.length ≤ i ∧ kvs.map (·.1) = ks.map (fun p => (Sum.inr p.1 : Key)) ∧ St8 (Fz kvs ks) ρ σ H',
      ⟨ds.length, by simp, Nat.zero_le _, [], [], h0, Nat.le_refl _, rfl, s1.lay ha⟩, fun i m H' ⟨em, hl, ks, kvs, hI, hal, hul, s'⟩ => ?_⟩
    have len2 : (kvs.map (·.2)).length = (ks.map (·.2)).length := by
      have := congrArg List.length hul
      simpa using this
    obtain ⟨i1, i2⟩ := it (mask (M8 (Fz kvs ks) σ ρ) H') H' mask_sub (s'.pins (v, d0) (List.mem_append_right _ List.mem_cons_self)) i
    by_cases hlt : i < ds.length
    · obtain ⟨d, hd1⟩ : ∃ d, ds[i]? = some d := ⟨_, List.getElem?_eq_getElem hlt⟩
      obtain ⟨j1, j2⟩ := i1 d hd1
      refine .inr ⟨j1, fun H2 => ∃ ks kvs, Iv (i + 1) ks ∧ ks.length ≤ i + 1 ∧ kvs.map (·.1) = ks.map (fun p => (Sum.inr p.1 : Key)) ∧ St8 (Fz kvs ks) ρ σ H2, fun H2 ⟨ac, u2, a1, a2, a3, a4⟩ => ⟨m - 1, by omega, by omega, by omega, ac, u2, a1, a2, a3, a4⟩, fun x H2 hy => ?_⟩
      obtain ⟨e, hx⟩ := j2 x H2 hy
      subst e
      have sw : St8 (Fz kvs ks) ρ (wipe σ vs) H2 := s'.back (vs := vs) (wipe_wipe σ vs).symm er
      refine hin x (wipe σ vs) H2 (fun σ2 H3 => wipe σ2 vs = wipe σ vs → tYes σ2 H3 fun b H4 => if b = true then tk σ2 H4 fun y H5 => tv σ2 H5 fun z H6 => ∃ kv k, y = kV k ∧ H6 a = some (.dK kv) ∧ kv.length < sizeLine ∧
        (∃ ks kvs, Iv (i + 1) ks ∧ ks.length ≤ i + 1 ∧ kvs.map (·.1) = ks.map (fun p => (Sum.inr p.1 : Key)) ∧ St8 (Fz kvs ks) ρ σ (upd H6 a (.dK (putK kv k z)))) else ∃ ks kvs, Iv (i + 1) ks ∧ ks.length ≤ i + 1 ∧ kvs.map (·.1) = ks.map (fun p => (Sum.inr p.1 : Key)) ∧ St8 (Fz kvs ks) ρ σ H4) _ (fun σ2 H3 e2 p2 => ⟨e2.trans (wipe_wipe σ vs), p2 (e2.trans (wipe_wipe σ vs))⟩) (hg _ ρ (wipe σ vs) H2 x d _ _ (hs i ks d hd1 hI) sw (Dt.mono (back_mask (vs := vs) (wipe_wipe σ vs).symm er) _ _ hx) fun ρ2 σ2 ⟨er2, p2⟩ s2 _ ew => ?_)
      refine snd_yes _ ρ2 σ2 H2 (fun b => b = true) _ rfl s2 fun b H2' eb s2' => ?_
      subst eb
      rw [if_pos rfl]
      refine hk _ ρ2 σ2 H2' _ _ p2 s2' fun y dy H3 p3 s3 d3 => hv ((Fz kvs ks).pin y dy) ρ2 σ2 H3 _ _ p3 (s3.pin d3) fun z dz H4 ⟨n, en, p4⟩ s4 d4 => ?_
      subst en
      have ey : y = .str n := (show Dt (mask (M8 (Fz kvs ks) σ2 ρ2) H4) y (.str n) from s4.pinned).strI
      subst ey
      have s5 := s4.unpin.back ew er2
      have d5 := Dt.mono (back_mask ew er2) _ _ d4
      have pr : Prs (mask (M8 (Fz kvs ks) σ ρ) H4) kvs ks := ⟨hul, zip_dts len2 fun p hp => s5.pins p (List.mem_append_left _ hp)⟩
      have pr2 := prs_put (n := n) d5 pr
      obtain ⟨s6, mk⟩ := s5.mut (o' := .dK (putK kvs (.inr n) z)) nh
      refine ⟨kvs, .inr n, rfl, s5.fz a _ upd_same, ?_, put8 ks n dz, putK kvs (.inr n) z, p4, ?_, pr2.1, ?_⟩
      · rw [prs_len pr, sizeLine_eq]; omega
      · have := put8_len ks n dz; omega
      · have s7 : St8 ((F.pin v d0).frz a (.dK (putK kvs (.inr n) z))) ρ σ (upd H4 a (.dK (putK kvs (.inr n) z))) :=
          ⟨s6.len, s6.src, s6.fz, s6.sep1, s6.sep2, s6.sep3, s6.fo, s6.ex, s6.dat, s6.own, s6.hp, fun p hp => s6.pins p (List.mem_append_right _ hp)⟩
        refine s7.pinAll ?_
        show Dts (mask (M8 (((F.pin v d0).pinAll (kvs.map (·.2)) (ks.map (·.2))).frz a (.dK (putK kvs (.inr n) z))) σ ρ) (upd H4 a (.dK (putK kvs (.inr n) z)))) _ _
        rw [mk]
        exact pr2.2
    · have e : i = ds.length := by omega
      subst e
      refine .inl ⟨i2 (Nat.le_refl _), ?_⟩
      obtain ⟨hj, hE⟩ := hd ks hI
      have s8 : St8 (F.frz a (.dK kvs)) ρ σ H' := ⟨s'.len, s'.src, s'.fz, s'.sep1, s'.sep2, s'.sep3, s'.fo, s'.ex, s'.dat, s'.own, s'.hp, fun p hp => s'.pins p (List.mem_append_right _ (List.mem_cons_of_mem _ hp))⟩
      exact ag.nx _ _ H' hE (s8.adopt (ds := .dic ks) ⟨kvs, rfl, hul, zip_dts len2 fun p hp => s'.pins p (List.mem_append_left _ hp)⟩ nh nm hj)
end
end D8
namespace D8
open PySem PySem.Spec PyProof.Rows L2

/-! ### texts compared, of any signs -/
def wNeS : W2 := fun d e P => ∃ a b : Str, d = .str a ∧ e = .str b ∧ P (.bool (!(a == b)))
theorem r_neS : SndR rNe wNeS := fun m H x y d e P Q ⟨a, b, e1, e2, p⟩ al hx hy q => by
  subst e1 e2
  have hx := hx.strI
  have hy := hy.strI
  subst hx hy
  have e : (!decide (V.str a = V.str b)) = !(a == b) := by rw [dec_str]
  exact ⟨rfl, q _ _ H p (ext_rfl H) (by rw [e]; exact .bl _)⟩
end D8
namespace D8
open PySem
def topS (i : Nat) : Stmt := PySem.Challenge.pw_nonearer_k08_whole_verdicts_of_summaries.main.body.getD i (.Pass ⟨0, 0, 0, 0⟩)
end D8
namespace D8
open PySem PySem.Spec PyProof.Rows L2
abbrev s_label_in : Stmt := topS 1
abbrev N_label_in : List Str := ["labels", "name", "other", "value"]
theorem sc_label_in : FnScope N_label_in ["labels", "name"] (defScope s_label_in) :=
  ⟨rfl, rfl, rfl, by decide +kernel, rfl, by decide +kernel, by decide +kernel⟩
def t_label_in (K : PySem.W.Frag) : TS :=
  (tSeq (tFor (iSeq8 K (tVar 0)) (gTup K 2 (gCons (gName 2) (gCons (gName 3) gNil))) (tIfS (tTest (tOp (rEqD K) (tVar 2) (tVar 1))) (tRet (tVar 3)) tNext))
  (tRet (tC .non)))
def w_label_in : WS :=
  (wSeq (wFor (wSeq8 (wVar 0)) (wgTup 2 (wgCons (wgName 2) (wgCons (wgName 3) wgNil))) (wIfS (wB (wOp wEqD (wVar 2) (wVar 1))) (wRet (wVar 3)) wNext))
  (wRet (wC .none)))
theorem snd_label_in {K : PySem.W.Frag} : SndS (t_label_in K) (w_label_in) :=
  (s_seq (s_for (i_seq (snd_var 0)) (g_tup (g_cons (g_name 2) (g_cons (g_name 3) g_nil))) (s_if (snd_test (snd_op r_eq (snd_var 2) (snd_var 1))) (s_ret (snd_var 3)) s_next))
  (s_ret snd_non))
theorem ok_label_in {P : Program} {w : World} {K : PySem.W.Frag} {mg : Str → Option Value} {base : Heap} {f : Addr} {fd : FuncData} {k : Nat} {S : S8}
    (F : Fun K "label_in" "label_in" s_label_in f fd) (bi : Bi mg)
    (hlen : ∀ ds P, S ds P → ds.length = 2)
    (lw : ∀ ds P, S ds P → w_label_in { nx := fun _ => P .none, rt := P } (dats ds 2)) : FnOk P w K mg base CX0 (k + 1) f fd ["labels", "name"] (spP S) := by
  refine F.ok sc_label_in (len_P hlen) (fun cdv A outer s H vs Q E hr h => ⟨t_label_in K, ?_, run_P (N := N_label_in) snd_label_in (fun ds P hS => by have e := hlen ds P hS; rw [show N_label_in.length - (ds.length) = 2 by rw [e] <;> rfl]; exact lw ds P hS) h⟩)
  exact (pss_cons (ps_for PassesOwn.never (by rfl) (pi_seq8 (pv 0)) (pg_tup (by rfl) (pgs_cons (pg_name (i := 2) sc_label_in.nd rfl (by first | exact Or.inl rfl | exact Or.inr rfl)) (pgs_cons (pg_name (i := 3) sc_label_in.nd rfl (by first | exact Or.inl rfl | exact Or.inr rfl)) pgs_nil))) (pss_one (ps_if (pt_cmpR (op_eqD hr.units) (pv 2) (pv 1) (nomark _)) (pss_one (ps_ret (pv 3))) pss_nil)))
    (pss_one (ps_ret pe_non)))

abbrev s_row_of_name : Stmt := topS 7
abbrev N_row_of_name : List Str := ["told", "name", "row"]
theorem sc_row_of_name : FnScope N_row_of_name ["told", "name"] (defScope s_row_of_name) :=
  ⟨rfl, rfl, rfl, by decide +kernel, rfl, by decide +kernel, by decide +kernel⟩
def t_row_of_name (K : PySem.W.Frag) : TS :=
  (tSeq (tFor (iSeq8 K (tOp (rIx8 K) (tVar 0) (tC (.int 1)))) (gName 2) (tIfS (tTest (tOp (rEqD K) (tOp (rIx8 K) (tVar 2) (tC (.int 0))) (tVar 1))) (tRet (tVar 2)) tNext))
  (tRet (tC .non)))
def w_row_of_name : WS :=
  (wSeq (wFor (wSeq8 (wOp wIx (wVar 0) (wC (.int 1)))) (wgName 2) (wIfS (wB (wOp wEqD (wOp wIx (wVar 2) (wC (.int 0))) (wVar 1))) (wRet (wVar 2)) wNext))
  (wRet (wC .none)))
theorem snd_row_of_name {K : PySem.W.Frag} : SndS (t_row_of_name K) (w_row_of_name) :=
  (s_seq (s_for (i_seq (snd_op r_ix (snd_var 0) (snd_int 1))) (g_name 2) (s_if (snd_test (snd_op r_eq (snd_op r_ix (snd_var 2) (snd_int 0)) (snd_var 1))) (s_ret (snd_var 2)) s_next))
  (s_ret snd_non))
theorem ok_row_of_name {P : Program} {w : World} {K : PySem.W.Frag} {mg : Str → Option Value} {base : Heap} {f : Addr} {fd : FuncData} {k : Nat} {S : S8}
    (F : Fun K "row_of_name" "row_of_name" s_row_of_name f fd) (bi : Bi mg)
    (hlen : ∀ ds P, S ds P → ds.length = 2)
    (lw : ∀ ds P, S ds P → w_row_of_name { nx := fun _ => P .none, rt := P } (dats ds 1)) : FnOk P w K mg base CX0 (k + 1) f fd ["told", "name"] (spP S) := by
  refine F.ok sc_row_of_name (len_P hlen) (fun cdv A outer s H vs Q E hr h => ⟨t_row_of_name K, ?_, run_P (N := N_row_of_name) snd_row_of_name (fun ds P hS => by have e := hlen ds P hS; rw [show N_row_of_name.length - (ds.length) = 1 by rw [e] <;> rfl]; exact lw ds P hS) h⟩)
  exact (pss_cons (ps_for PassesOwn.never (by rfl) (pi_seq8 (pe_ix ix_8 (pv 0) pe_int (fun _ _ => rfl))) (pg_name (i := 2) sc_row_of_name.nd rfl (by first | exact Or.inl rfl | exact Or.inr rfl)) (pss_one (ps_if (pt_cmpR (op_eqD hr.units) (pe_ix ix_8 (pv 2) pe_int (fun _ _ => rfl)) (pv 1) (nomark _)) (pss_one (ps_ret (pv 2))) pss_nil)))
    (pss_one (ps_ret pe_non)))

abbrev s_opposite_verdict : Stmt := topS 9
abbrev N_opposite_verdict : List Str := ["word"]
theorem sc_opposite_verdict : FnScope N_opposite_verdict ["word"] (defScope s_opposite_verdict) :=
  ⟨rfl, rfl, rfl, by decide +kernel, rfl, by decide +kernel, by decide +kernel⟩
def t_opposite_verdict (K : PySem.W.Frag) : TS :=
  (tSeq (tIfS (tTest (tOp (rEqD K) (tVar 0) (tC (.str "some")))) (tRet (tC (.str "some"))) tNext)
  (tRet (tIf (tTest (tOp (rEqD K) (tVar 0) (tC (.str "none")))) (tC (.str "all")) (tC (.str "none")))))
def w_opposite_verdict : WS :=
  (wSeq (wIfS (wB (wOp wEqD (wVar 0) (wC (.str "some")))) (wRet (wC (.str "some"))) wNext)
  (wRet (wIfE (wB (wOp wEqD (wVar 0) (wC (.str "none")))) (wC (.str "all")) (wC (.str "none")))))
theorem snd_opposite_verdict {K : PySem.W.Frag} : SndS (t_opposite_verdict K) (w_opposite_verdict) :=
  (s_seq (s_if (snd_test (snd_op r_eq (snd_var 0) (snd_str "some"))) (s_ret (snd_str "some")) s_next)
  (s_ret (snd_ifE (snd_test (snd_op r_eq (snd_var 0) (snd_str "none"))) (snd_str "all") (snd_str "none"))))
theorem ok_opposite_verdict {P : Program} {w : World} {K : PySem.W.Frag} {mg : Str → Option Value} {base : Heap} {f : Addr} {fd : FuncData} {k : Nat} {S : S8}
    (F : Fun K "opposite_verdict" "opposite_verdict" s_opposite_verdict f fd) (bi : Bi mg)
    (hlen : ∀ ds P, S ds P → ds.length = 1)
    (lw : ∀ ds P, S ds P → w_opposite_verdict { nx := fun _ => P .none, rt := P } (dats ds 0)) : FnOk P w K mg base CX0 (k + 1) f fd ["word"] (spP S) := by
  refine F.ok sc_opposite_verdict (len_P hlen) (fun cdv A outer s H vs Q E hr h => ⟨t_opposite_verdict K, ?_, run_P (N := N_opposite_verdict) snd_opposite_verdict (fun ds P hS => by have e := hlen ds P hS; rw [show N_opposite_verdict.length - (ds.length) = 0 by rw [e] <;> rfl]; exact lw ds P hS) h⟩)
  exact (pss_cons (ps_if (pt_cmpR (op_eqD hr.units) (pv 0) pe_str (nomark _)) (pss_one (ps_ret pe_str)) pss_nil)
    (pss_one (ps_ret (pe_ifExp (pt_cmpR (op_eqD hr.units) (pv 0) pe_str (nomark _)) pe_str pe_str))))

end D8
namespace D8
open PySem PySem.Spec PyProof.Rows L2
abbrev s_row_joined : Stmt := topS 3
abbrev N_row_joined : List Str := ["one", "other"]
theorem sc_row_joined : FnScope N_row_joined ["one", "other"] (defScope s_row_joined) :=
  ⟨rfl, rfl, rfl, by decide +kernel, rfl, by decide +kernel, by decide +kernel⟩
def t_row_joined (K : PySem.W.Frag) : TS :=
  (tRet (tTup (tCons (tOp (rIx8 K) (tVar 0) (tC (.int 0))) (tCons (tOp (rI0 fun i j => .int (i + j)) (tOp (rIx8 K) (tVar 0) (tC (.int 1))) (tOp (rIx8 K) (tVar 1) (tC (.int 1)))) (tCons (tCB rMin8 (tCons (tOp (rIx8 K) (tVar 0) (tC (.int 2))) (tCons (tOp (rIx8 K) (tVar 1) (tC (.int 2))) tNil))) (tCons (tCB rMax8 (tCons (tOp (rIx8 K) (tVar 0) (tC (.int 3))) (tCons (tOp (rIx8 K) (tVar 1) (tC (.int 3))) tNil))) tNil))))))
def w_row_joined : WS :=
  (wRet (wTup (wCons (wOp wIx (wVar 0) (wC (.int 0))) (wCons (wOp (wI (fun _ _ => True) fun i j => .int (i + j)) (wOp wIx (wVar 0) (wC (.int 1))) (wOp wIx (wVar 1) (wC (.int 1)))) (wCons (wCB wMin2 (wCons (wOp wIx (wVar 0) (wC (.int 2))) (wCons (wOp wIx (wVar 1) (wC (.int 2))) wNil))) (wCons (wCB wMax2 (wCons (wOp wIx (wVar 0) (wC (.int 3))) (wCons (wOp wIx (wVar 1) (wC (.int 3))) wNil))) wNil))))))
theorem snd_row_joined {K : PySem.W.Frag} : SndS (t_row_joined K) (w_row_joined) :=
  (s_ret (snd_tup (snd_cons (snd_op r_ix (snd_var 0) (snd_int 0)) (snd_cons (snd_op r_I0 (snd_op r_ix (snd_var 0) (snd_int 1)) (snd_op r_ix (snd_var 1) (snd_int 1))) (snd_cons (snd_cb c_min2 (snd_cons (snd_op r_ix (snd_var 0) (snd_int 2)) (snd_cons (snd_op r_ix (snd_var 1) (snd_int 2)) snd_nil))) (snd_cons (snd_cb c_max2 (snd_cons (snd_op r_ix (snd_var 0) (snd_int 3)) (snd_cons (snd_op r_ix (snd_var 1) (snd_int 3)) snd_nil))) snd_nil))))))
theorem ok_row_joined {P : Program} {w : World} {K : PySem.W.Frag} {mg : Str → Option Value} {base : Heap} {f : Addr} {fd : FuncData} {k : Nat} {S : S8}
    (F : Fun K "row_joined" "row_joined" s_row_joined f fd) (bi : Bi mg)
    (hlen : ∀ ds P, S ds P → ds.length = 2)
    (lw : ∀ ds P, S ds P → w_row_joined { nx := fun _ => P .none, rt := P } (dats ds 0)) : FnOk P w K mg base CX0 (k + 1) f fd ["one", "other"] (spP S) := by
  refine F.ok sc_row_joined (len_P hlen) (fun cdv A outer s H vs Q E hr h => ⟨t_row_joined K, ?_, run_P (N := N_row_joined) snd_row_joined (fun ds P hS => by have e := hlen ds P hS; rw [show N_row_joined.length - (ds.length) = 0 by rw [e] <;> rfl]; exact lw ds P hS) h⟩)
  exact (pss_one (ps_ret (pe_tup (pa_cons (pe_ix ix_8 (pv 0) pe_int (fun _ _ => rfl)) (pa_cons (pe_op op_add (pe_ix ix_8 (pv 0) pe_int (fun _ _ => rfl)) (pe_ix ix_8 (pv 1) pe_int (fun _ _ => rfl))) (pa_cons (pe_callB (k_min2 (by rfl)) (by rfl) bi.min bo_min (pa_cons (pe_ix ix_8 (pv 0) pe_int (fun _ _ => rfl)) (pa_cons (pe_ix ix_8 (pv 1) pe_int (fun _ _ => rfl)) pa_nil))) (pa_cons (pe_callB (k_max2 (by rfl)) (by rfl) bi.max bo_max (pa_cons (pe_ix ix_8 (pv 0) pe_int (fun _ _ => rfl)) (pa_cons (pe_ix ix_8 (pv 1) pe_int (fun _ _ => rfl)) pa_nil))) pa_nil)))))))

abbrev s_summary : Stmt := topS 5
abbrev N_summary : List Str := ["items", "found", "item", "name", "value"]
theorem sc_summary : FnScope N_summary ["items"] (defScope s_summary) :=
  ⟨rfl, rfl, rfl, by decide +kernel, rfl, by decide +kernel, by decide +kernel⟩
def t_summary (K : PySem.W.Frag) (S_joined_summary : S8) : TS :=
  (tSeq (tAsg (tTup (tCons (tC (.int 0)) (tCons (tTup tNil) tNil))) (gName 1))
  (tSeq (tFor (iSeq8 K (tVar 0)) (gName 2) (tAsg (tCall (spP S_joined_summary) [] E0 (tCons (tVar 1) (tCons (tTup (tCons (tC (.int 1)) (tCons (tCB (rTupOf K) (tCons (tLc (iSeq8 K (tOp (rIx8 K) (tVar 2) (tC (.int 2)))) (gTup K 2 (gCons (gName 3) (gCons (gName 4) gNil))) tYes (tTup (tCons (tVar 3) (tCons (tC (.int 1)) (tCons (tVar 4) (tCons (tVar 4) tNil))))) [3, 4]) tNil)) tNil))) tNil))) (gName 1)))
  (tRet (tVar 1))))
def w_summary (S_joined_summary : S8) : WS :=
  (wSeq (wAsg (wTup (wCons (wC (.int 0)) (wCons (wTup wNil) wNil))) (wgName 1))
  (wSeq (wFor (wSeq8 (wVar 0)) (wgName 2) (wAsg (wCall S_joined_summary (wCons (wVar 1) (wCons (wTup (wCons (wC (.int 1)) (wCons (wCB wTupOf (wCons (wL (wLc (wSeq8 (wOp wIx (wVar 2) (wC (.int 2)))) (wgTup 2 (wgCons (wgName 3) (wgCons (wgName 4) wgNil))) wYes (wTup (wCons (wVar 3) (wCons (wC (.int 1)) (wCons (wVar 4) (wCons (wVar 4) wNil))))) [3, 4])) wNil)) wNil))) wNil))) (wgName 1)))
  (wRet (wVar 1))))
theorem snd_summary {K : PySem.W.Frag} {S_joined_summary : S8} : SndS (t_summary K S_joined_summary) (w_summary S_joined_summary) :=
  (s_seq (s_asg (snd_tup (snd_cons (snd_int 0) (snd_cons (snd_tup snd_nil) snd_nil))) (g_name 1))
  (s_seq (s_for (i_seq (snd_var 0)) (g_name 2) (s_asg (snd_call (snd_cons (snd_var 1) (snd_cons (snd_tup (snd_cons (snd_int 1) (snd_cons (snd_cb c_tupOf (snd_cons (snd_L (l_lc (i_seq (snd_op r_ix (snd_var 2) (snd_int 2))) (g_tup (g_cons (g_name 3) (g_cons (g_name 4) g_nil))) (in_tup (in_cons (in_name (by decide)) (in_cons (in_name (by decide)) in_nil))) snd_yes (snd_tup (snd_cons (snd_var 3) (snd_cons (snd_int 1) (snd_cons (snd_var 4) (snd_cons (snd_var 4) snd_nil))))))) snd_nil)) snd_nil))) snd_nil))) (g_name 1)))
  (s_ret (snd_var 1))))
theorem ok_summary {P : Program} {w : World} {K : PySem.W.Frag} {mg : Str → Option Value} {base : Heap} {f : Addr} {fd : FuncData} {k : Nat} {S S_joined_summary : S8}
    (F : Fun K "summary" "summary" s_summary f fd) (bi : Bi mg)
    (c_joined_summary : Cal P w K mg base "joined_summary" ["one", "other"] k (spP S_joined_summary))
    (hlen : ∀ ds P, S ds P → ds.length = 1)
    (lw : ∀ ds P, S ds P → w_summary S_joined_summary { nx := fun _ => P .none, rt := P } (dats ds 4)) : FnOk P w K mg base CX0 (k + 1) f fd ["items"] (spP S) := by
  refine F.ok sc_summary (len_P hlen) (fun cdv A outer s H vs Q E hr h => ⟨t_summary K S_joined_summary, ?_, run_P (N := N_summary) snd_summary (fun ds P hS => by have e := hlen ds P hS; rw [show N_summary.length - (ds.length) = 4 by rw [e] <;> rfl]; exact lw ds P hS) h⟩)
  exact (pss_cons (ps_set (i := 1) sc_summary.nd rfl (Or.inl rfl) (pe_tup (pa_cons pe_int (pa_cons (pe_tup pa_nil) pa_nil))))
    (pss_cons (ps_for PassesOwn.never (by rfl) (pi_seq8 (pv 0)) (pg_name (i := 2) sc_summary.nd rfl (by first | exact Or.inl rfl | exact Or.inr rfl)) (pss_one (ps_set (i := 1) sc_summary.nd rfl (Or.inl rfl) (pe_cal c_joined_summary hr (by rfl) (pa_cons (pv 1) (pa_cons (pe_tup (pa_cons pe_int (pa_cons (pe_callTy k_tuple (by rfl) bi.tuple bo_tuple (pa_cons (pe_lc (own := [("name", 3), ("value", 4)]) (wi := (iSeq8 K (tOp (rIx8 K) (tVar 2) (tC (.int 2))))) (g := (gTup K 2 (gCons (gName 3) (gCons (gName 4) gNil)))) (tt := tYes) (te := (tTup (tCons (tVar 3) (tCons (tC (.int 1)) (tCons (tVar 4) (tCons (tVar 4) tNil)))))) (by rfl) sc_summary.nd (pi_seq8 (pe_ix ix_8 (pv 2) pe_int (fun _ _ => rfl))) (blkOk_by (own := [("name", 3), ("value", 4)]) (N := N_summary) (sc := defScope s_summary) (by decide +kernel)) (fun _ _ _ _ _ => (pg_tup (by rfl) (pgs_cons (pg_name (i := 3) sc_summary.nd rfl (by first | exact Or.inl rfl | exact Or.inr rfl)) (pgs_cons (pg_name (i := 4) sc_summary.nd rfl (by first | exact Or.inl rfl | exact Or.inr rfl)) pgs_nil)))) (fun _ _ _ _ _ => pts_nil) (fun _ _ _ _ _ => (pe_tup (pa_cons (pv 3) (pa_cons pe_int (pa_cons (pv 4) (pa_cons (pv 4) pa_nil))))))) pa_nil)) pa_nil))) pa_nil))))))
    (pss_one (ps_ret (pv 1)))))

abbrev s_example_labels : Stmt := topS 6
abbrev N_example_labels : List Str := ["told", "found", "at", "rows", "row", "name", "many", "least", "greatest"]
theorem sc_example_labels : FnScope N_example_labels ["told"] (defScope s_example_labels) :=
  ⟨rfl, rfl, rfl, by decide +kernel, rfl, by decide +kernel, by decide +kernel⟩
def t_example_labels (K : PySem.W.Frag) : TS :=
  (tSeq (tAsg (tLst tNil) (gName 1))
  (tSeq (tFor (iRng1 (tCons (tOp (rIx8 K) (tVar 0) (tC (.int 0))) tNil)) (gName 2) (tSeq (tAsg (tLc (iSeq8 K (tOp (rIx8 K) (tVar 0) (tC (.int 1)))) (gName 4) (tTest (tOp (rI0 fun i j => .bl (decide (i < j))) (tVar 2) (tOp (rIx8 K) (tVar 4) (tC (.int 1))))) (tVar 4) [4]) (gName 3))
  (tDrop (tBM K "list" rAppend (tVar 1) (tCons (tCB (rTupOf K) (tCons (tLc (iSeq8 K (tVar 3)) (gTup K 4 (gCons (gName 5) (gCons (gName 6) (gCons (gName 7) (gCons (gName 8) gNil))))) tYes (tTup (tCons (tVar 5) (tCons (tIf (tTest (tOp (rEqD K) (tVar 2) (tC (.int 0)))) (tVar 7) (tVar 8)) tNil))) [5, 6, 7, 8]) tNil)) tNil)))))
  (tRet (tCB (rTupOf K) (tCons (tVar 1) tNil)))))
def w_example_labels : WS :=
  (wSeq (wOwn wNil 1)
  (wSeq (wFor (wRng1 (wCons (wOp wIx (wVar 0) (wC (.int 0))) wNil)) (wgName 2) (wSeq (wAsg (wL (wLc (wSeq8 (wOp wIx (wVar 0) (wC (.int 1)))) (wgName 4) (wB (wOp (wI (fun _ _ => True) fun i j => .bool (decide (i < j))) (wVar 2) (wOp wIx (wVar 4) (wC (.int 1))))) (wVar 4) [4])) (wgName 3))
  (wApp 1 (wCB wTupOf (wCons (wL (wLc (wSeq8 (wVar 3)) (wgTup 4 (wgCons (wgName 5) (wgCons (wgName 6) (wgCons (wgName 7) (wgCons (wgName 8) wgNil))))) wYes (wTup (wCons (wVar 5) (wCons (wIfE (wB (wOp wEqD (wVar 2) (wC (.int 0)))) (wVar 7) (wVar 8)) wNil))) [5, 6, 7, 8])) wNil)))))
  (wFrz 1 (wRet (wCB wTupOf (wCons (wVar 1) wNil))))))
theorem snd_example_labels {K : PySem.W.Frag} : SndS (t_example_labels K) (w_example_labels) :=
  (s_seq (s_own l_nil)
  (s_seq (s_for (i_rng1 (snd_cons (snd_op r_ix (snd_var 0) (snd_int 0)) snd_nil)) (g_name 2) (s_seq (s_asg (snd_L (l_lc (i_seq (snd_op r_ix (snd_var 0) (snd_int 1))) (g_name 4) (in_name (by decide)) (snd_test (snd_op r_B0 (snd_var 2) (snd_op r_ix (snd_var 4) (snd_int 1)))) (snd_var 4))) (g_name 3))
  (s_app (snd_cb c_tupOf (snd_cons (snd_L (l_lc (i_seq (snd_var 3)) (g_tup (g_cons (g_name 5) (g_cons (g_name 6) (g_cons (g_name 7) (g_cons (g_name 8) g_nil))))) (in_tup (in_cons (in_name (by decide)) (in_cons (in_name (by decide)) (in_cons (in_name (by decide)) (in_cons (in_name (by decide)) in_nil))))) snd_yes (snd_tup (snd_cons (snd_var 5) (snd_cons (snd_ifE (snd_test (snd_op r_eq (snd_var 2) (snd_int 0))) (snd_var 7) (snd_var 8)) snd_nil))))) snd_nil)))))
  (s_frz 1 (s_ret (snd_cb c_tupOf (snd_cons (snd_var 1) snd_nil))))))
theorem ok_example_labels {P : Program} {w : World} {K : PySem.W.Frag} {mg : Str → Option Value} {base : Heap} {f : Addr} {fd : FuncData} {k : Nat} {S : S8}
    (F : Fun K "example_labels" "example_labels" s_example_labels f fd) (bi : Bi mg)
    (hlen : ∀ ds P, S ds P → ds.length = 1)
    (lw : ∀ ds P, S ds P → w_example_labels { nx := fun _ => P .none, rt := P } (dats ds 8)) : FnOk P w K mg base CX0 (k + 1) f fd ["told"] (spP S) := by
  refine F.ok sc_example_labels (len_P hlen) (fun cdv A outer s H vs Q E hr h => ⟨t_example_labels K, ?_, run_P (N := N_example_labels) snd_example_labels (fun ds P hS => by have e := hlen ds P hS; rw [show N_example_labels.length - (ds.length) = 8 by rw [e] <;> rfl]; exact lw ds P hS) h⟩)
  exact (pss_cons (ps_set (i := 1) sc_example_labels.nd rfl (Or.inl rfl) (pe_lst pa_nil))
    (pss_cons (ps_for PassesOwn.never (by rfl) (pi_range1 (by rfl) bi.range (pa_cons (pe_ix ix_8 (pv 0) pe_int (fun _ _ => rfl)) pa_nil)) (pg_name (i := 2) sc_example_labels.nd rfl (by first | exact Or.inl rfl | exact Or.inr rfl)) (pss_cons (ps_setLc (i := 3) (own := [("row", 4)]) (wi := (iSeq8 K (tOp (rIx8 K) (tVar 0) (tC (.int 1))))) (g := (gName 4)) (tt := (tTest (tOp (rI0 fun i j => .bl (decide (i < j))) (tVar 2) (tOp (rIx8 K) (tVar 4) (tC (.int 1)))))) (te := (tVar 4)) (by rfl) sc_example_labels.nd rfl rfl (sw_true rfl rfl rfl (by decide +kernel)) (pi_seq8 (pe_ix ix_8 (pv 0) pe_int (fun _ _ => rfl))) (blkOk_by (own := [("row", 4)]) (N := N_example_labels) (sc := defScope s_example_labels) (by decide +kernel)) (fun _ _ _ _ _ => (pg_name (i := 4) sc_example_labels.nd rfl (by first | exact Or.inl rfl | exact Or.inr rfl))) (fun _ _ _ _ _ => (pts_one (pt_cmpR op_lt (pv 2) (pe_ix ix_8 (pv 4) pe_int (fun _ _ => rfl)) (nomark _)))) (fun _ _ _ _ _ => (pv 4)))
    (pss_one (ps_expr (pe_bm PySem.F.plainAttrs_list PySem.F.slot_list_append PySem.F.type_list_append mt_append (pv 1) (pa_cons (pe_callTy k_tuple (by rfl) bi.tuple bo_tuple (pa_cons (pe_lc (own := [("name", 5), ("many", 6), ("least", 7), ("greatest", 8)]) (wi := (iSeq8 K (tVar 3))) (g := (gTup K 4 (gCons (gName 5) (gCons (gName 6) (gCons (gName 7) (gCons (gName 8) gNil)))))) (tt := tYes) (te := (tTup (tCons (tVar 5) (tCons (tIf (tTest (tOp (rEqD K) (tVar 2) (tC (.int 0)))) (tVar 7) (tVar 8)) tNil)))) (by rfl) sc_example_labels.nd (pi_seq8 (pv 3)) (blkOk_by (own := [("name", 5), ("many", 6), ("least", 7), ("greatest", 8)]) (N := N_example_labels) (sc := defScope s_example_labels) (by decide +kernel)) (fun _ _ _ _ _ => (pg_tup (by rfl) (pgs_cons (pg_name (i := 5) sc_example_labels.nd rfl (by first | exact Or.inl rfl | exact Or.inr rfl)) (pgs_cons (pg_name (i := 6) sc_example_labels.nd rfl (by first | exact Or.inl rfl | exact Or.inr rfl)) (pgs_cons (pg_name (i := 7) sc_example_labels.nd rfl (by first | exact Or.inl rfl | exact Or.inr rfl)) (pgs_cons (pg_name (i := 8) sc_example_labels.nd rfl (by first | exact Or.inl rfl | exact Or.inr rfl)) pgs_nil)))))) (fun _ _ _ _ _ => pts_nil) (fun _ _ _ _ _ => (pe_tup (pa_cons (pv 5) (pa_cons (pe_ifExp (pt_cmpR (op_eqD hr.units) (pv 2) pe_int (nomark _)) (pv 7) (pv 8)) pa_nil))))) pa_nil)) pa_nil))))))
    (pss_one (ps_ret (pe_callTy k_tuple (by rfl) bi.tuple bo_tuple (pa_cons (pv 1) pa_nil))))))

abbrev s_range_verdict : Stmt := topS 8
abbrev N_range_verdict : List Str := ["sieve", "row", "count", "name", "many", "least", "greatest", "low", "high"]
theorem sc_range_verdict : FnScope N_range_verdict ["sieve", "row", "count"] (defScope s_range_verdict) :=
  ⟨rfl, rfl, rfl, by decide +kernel, rfl, by decide +kernel, by decide +kernel⟩
def t_range_verdict (K : PySem.W.Frag) : TS :=
  (tSeq (tAsg (tVar 1) (gTup K 4 (gCons (gName 3) (gCons (gName 4) (gCons (gName 5) (gCons (gName 6) gNil))))))
  (tSeq (tAsg (L2.tSl (rSlB K) (tVar 0) (tPart (tC (.int 2))) tNoPart) (gTup K 2 (gCons (gName 7) (gCons (gName 8) gNil))))
  (tSeq (tIfS (tOr (tTest (tOp (rI0 fun i j => .bl (decide (i < j))) (tVar 8) (tVar 5))) (tOr (tTest (tOp (rI0 fun i j => .bl (decide (i < j))) (tVar 6) (tVar 7))) (tAnd (tTest (tOp (rI0 fun i j => .bl (decide (i ≤ j))) (tVar 4) (tC (.int 2)))) (tAnd (tTest (tOp (rI0 fun i j => .bl (decide (i < j))) (tVar 5) (tVar 7))) (tTest (tOp (rI0 fun i j => .bl (decide (i < j))) (tVar 8) (tVar 6))))))) (tRet (tC (.str "none"))) tNext)
  (tRet (tIf (tAnd (tTest (tOp (rEqD K) (tVar 4) (tVar 2))) (tAnd (tTest (tOp (rI0 fun i j => .bl (decide (i ≤ j))) (tVar 7) (tVar 5))) (tTest (tOp (rI0 fun i j => .bl (decide (i ≤ j))) (tVar 6) (tVar 8))))) (tC (.str "all")) (tC (.str "some")))))))
def w_range_verdict : WS :=
  (wSeq (wAsg (wVar 1) (wgTup 4 (wgCons (wgName 3) (wgCons (wgName 4) (wgCons (wgName 5) (wgCons (wgName 6) wgNil))))))
  (wSeq (wAsg (wSl (wVar 0) (wPart (wC (.int 2))) wNoPart) (wgTup 2 (wgCons (wgName 7) (wgCons (wgName 8) wgNil))))
  (wSeq (wIfS (wOr (wB (wOp (wI (fun _ _ => True) fun i j => .bool (decide (i < j))) (wVar 8) (wVar 5))) (wOr (wB (wOp (wI (fun _ _ => True) fun i j => .bool (decide (i < j))) (wVar 6) (wVar 7))) (wAnd (wB (wOp (wI (fun _ _ => True) fun i j => .bool (decide (i ≤ j))) (wVar 4) (wC (.int 2)))) (wAnd (wB (wOp (wI (fun _ _ => True) fun i j => .bool (decide (i < j))) (wVar 5) (wVar 7))) (wB (wOp (wI (fun _ _ => True) fun i j => .bool (decide (i < j))) (wVar 8) (wVar 6))))))) (wRet (wC (.str "none"))) wNext)
  (wRet (wIfE (wAnd (wB (wOp wEqD (wVar 4) (wVar 2))) (wAnd (wB (wOp (wI (fun _ _ => True) fun i j => .bool (decide (i ≤ j))) (wVar 7) (wVar 5))) (wB (wOp (wI (fun _ _ => True) fun i j => .bool (decide (i ≤ j))) (wVar 6) (wVar 8))))) (wC (.str "all")) (wC (.str "some")))))))
theorem snd_range_verdict {K : PySem.W.Frag} : SndS (t_range_verdict K) (w_range_verdict) :=
  (s_seq (s_asg (snd_var 1) (g_tup (g_cons (g_name 3) (g_cons (g_name 4) (g_cons (g_name 5) (g_cons (g_name 6) g_nil))))))
  (s_seq (s_asg (snd_sl (snd_var 0) (snd_part (snd_int 2)) snd_noPart) (g_tup (g_cons (g_name 7) (g_cons (g_name 8) g_nil))))
  (s_seq (s_if (snd_or (snd_test (snd_op r_B0 (snd_var 8) (snd_var 5))) (snd_or (snd_test (snd_op r_B0 (snd_var 6) (snd_var 7))) (snd_and (snd_test (snd_op r_B0 (snd_var 4) (snd_int 2))) (snd_and (snd_test (snd_op r_B0 (snd_var 5) (snd_var 7))) (snd_test (snd_op r_B0 (snd_var 8) (snd_var 6))))))) (s_ret (snd_str "none")) s_next)
  (s_ret (snd_ifE (snd_and (snd_test (snd_op r_eq (snd_var 4) (snd_var 2))) (snd_and (snd_test (snd_op r_B0 (snd_var 7) (snd_var 5))) (snd_test (snd_op r_B0 (snd_var 6) (snd_var 8))))) (snd_str "all") (snd_str "some"))))))
theorem ok_range_verdict {P : Program} {w : World} {K : PySem.W.Frag} {mg : Str → Option Value} {base : Heap} {f : Addr} {fd : FuncData} {k : Nat} {S : S8}
    (F : Fun K "range_verdict" "range_verdict" s_range_verdict f fd) (bi : Bi mg)
    (hlen : ∀ ds P, S ds P → ds.length = 3)
    (lw : ∀ ds P, S ds P → w_range_verdict { nx := fun _ => P .none, rt := P } (dats ds 6)) : FnOk P w K mg base CX0 (k + 1) f fd ["sieve", "row", "count"] (spP S) := by
  refine F.ok sc_range_verdict (len_P hlen) (fun cdv A outer s H vs Q E hr h => ⟨t_range_verdict K, ?_, run_P (N := N_range_verdict) snd_range_verdict (fun ds P hS => by have e := hlen ds P hS; rw [show N_range_verdict.length - (ds.length) = 6 by rw [e] <;> rfl]; exact lw ds P hS) h⟩)
  exact (pss_cons (ps_asg (pv 1) (pg_tup (by rfl) (pgs_cons (pg_name (i := 3) sc_range_verdict.nd rfl (by first | exact Or.inl rfl | exact Or.inr rfl)) (pgs_cons (pg_name (i := 4) sc_range_verdict.nd rfl (by first | exact Or.inl rfl | exact Or.inr rfl)) (pgs_cons (pg_name (i := 5) sc_range_verdict.nd rfl (by first | exact Or.inl rfl | exact Or.inr rfl)) (pgs_cons (pg_name (i := 6) sc_range_verdict.nd rfl (by first | exact Or.inl rfl | exact Or.inr rfl)) pgs_nil))))))
    (pss_cons (ps_asg (pe_slice sl_both (pv 0) (po_some pe_int) po_none) (pg_tup (by rfl) (pgs_cons (pg_name (i := 7) sc_range_verdict.nd rfl (by first | exact Or.inl rfl | exact Or.inr rfl)) (pgs_cons (pg_name (i := 8) sc_range_verdict.nd rfl (by first | exact Or.inl rfl | exact Or.inr rfl)) pgs_nil))))
    (pss_cons (ps_if ((pw_or (pt_cmpR op_lt (pv 8) (pv 5) (nomark _)) (pw_or (pt_cmpR op_lt (pv 6) (pv 7) (nomark _)) (pw_or1 ((pw_and (pt_cmpR op_le (pv 4) pe_int (nomark _)) (pw_and (pt_cmpR op_lt (pv 5) (pv 7) (nomark _)) (pw_and1 (pt_cmpR op_lt (pv 8) (pv 6) (nomark _)))))).pt)))).pt (pss_one (ps_ret pe_str)) pss_nil)
    (pss_one (ps_ret (pe_ifExp ((pw_and (pt_cmpR (op_eqD hr.units) (pv 4) (pv 2) (nomark _)) (pw_and (pt_cmpR op_le (pv 7) (pv 5) (nomark _)) (pw_and1 (pt_cmpR op_le (pv 6) (pv 8) (nomark _)))))).pt pe_str pe_str))))))

abbrev s_verdict_of_all : Stmt := topS 10
abbrev N_verdict_of_all : List Str := ["words"]
theorem sc_verdict_of_all : FnScope N_verdict_of_all ["words"] (defScope s_verdict_of_all) :=
  ⟨rfl, rfl, rfl, by decide +kernel, rfl, by decide +kernel, by decide +kernel⟩
def t_verdict_of_all (K : PySem.W.Frag) : TS :=
  (tSeq (tIfS (tTest (tOp (rInD K) (tC (.str "none")) (tVar 0))) (tRet (tC (.str "none"))) tNext)
  (tRet (tIf (tTest (tOp (rInD K) (tC (.str "some")) (tVar 0))) (tC (.str "some")) (tC (.str "all")))))
def w_verdict_of_all : WS :=
  (wSeq (wIfS (wB (wOp wInD (wC (.str "none")) (wVar 0))) (wRet (wC (.str "none"))) wNext)
  (wRet (wIfE (wB (wOp wInD (wC (.str "some")) (wVar 0))) (wC (.str "some")) (wC (.str "all")))))
theorem snd_verdict_of_all {K : PySem.W.Frag} : SndS (t_verdict_of_all K) (w_verdict_of_all) :=
  (s_seq (s_if (snd_test (snd_op r_in (snd_str "none") (snd_var 0))) (s_ret (snd_str "none")) s_next)
  (s_ret (snd_ifE (snd_test (snd_op r_in (snd_str "some") (snd_var 0))) (snd_str "some") (snd_str "all"))))
theorem ok_verdict_of_all {P : Program} {w : World} {K : PySem.W.Frag} {mg : Str → Option Value} {base : Heap} {f : Addr} {fd : FuncData} {k : Nat} {S : S8}
    (F : Fun K "verdict_of_all" "verdict_of_all" s_verdict_of_all f fd) (bi : Bi mg)
    (hlen : ∀ ds P, S ds P → ds.length = 1)
    (lw : ∀ ds P, S ds P → w_verdict_of_all { nx := fun _ => P .none, rt := P } (dats ds 0)) : FnOk P w K mg base CX0 (k + 1) f fd ["words"] (spP S) := by
  refine F.ok sc_verdict_of_all (len_P hlen) (fun cdv A outer s H vs Q E hr h => ⟨t_verdict_of_all K, ?_, run_P (N := N_verdict_of_all) snd_verdict_of_all (fun ds P hS => by have e := hlen ds P hS; rw [show N_verdict_of_all.length - (ds.length) = 0 by rw [e] <;> rfl]; exact lw ds P hS) h⟩)
  exact (pss_cons (ps_if (pt_cmpR (op_inD (room65 hr)) pe_str (pv 0) (by rfl)) (pss_one (ps_ret pe_str)) pss_nil)
    (pss_one (ps_ret (pe_ifExp (pt_cmpR (op_inD (room65 hr)) pe_str (pv 0) (by rfl)) pe_str pe_str))))

abbrev s_verdict : Stmt := topS 11
abbrev N_verdict : List Str := ["sieve", "told", "word", "row", "part"]
theorem sc_verdict : FnScope N_verdict ["sieve", "told"] (defScope s_verdict) :=
  ⟨rfl, rfl, rfl, by decide +kernel, rfl, by decide +kernel, by decide +kernel⟩
def t_verdict (K : PySem.W.Frag) (S_opposite_verdict S_verdict S_verdict_of_all S_row_of_name S_range_verdict : S8) : TS :=
  (tSeq (tIfS (tTest (tOp (rEqD K) (tOp (rIx8 K) (tVar 1) (tC (.int 0))) (tC (.int 0)))) (tRet (tC (.str "none"))) tNext)
  (tSeq (tAsg (tOp (rIx8 K) (tVar 0) (tC (.int 0))) (gName 2))
  (tSeq (tIfS (tTest (tOp (rEqD K) (tVar 2) (tC (.str "all")))) (tRet (tC (.str "all"))) tNext)
  (tSeq (tIfS (tTest (tOp (rEqD K) (tVar 2) (tC (.str "not")))) (tRet (tCall (spP S_opposite_verdict) [] E0 (tCons (tCall (spP S_verdict) [] E0 (tCons (tOp (rIx8 K) (tVar 0) (tC (.int 1))) (tCons (tVar 1) tNil))) tNil))) tNext)
  (tSeq (tIfS (tTest (tOp (rEqD K) (tVar 2) (tC (.str "and")))) (tRet (tCall (spP S_verdict_of_all) [] E0 (tCons (tLc (iSeq8 K (L2.tSl (rSlB K) (tVar 0) (tPart (tC (.int 1))) tNoPart)) (gName 4) tYes (tCall (spP S_verdict) [] E0 (tCons (tVar 4) (tCons (tVar 1) tNil))) [4]) tNil))) tNext)
  (tSeq (tIfS (tTest (tOp (rEqD K) (tVar 2) (tC (.str "or")))) (tRet (tCall (spP S_opposite_verdict) [] E0 (tCons (tCall (spP S_verdict_of_all) [] E0 (tCons (tLc (iSeq8 K (L2.tSl (rSlB K) (tVar 0) (tPart (tC (.int 1))) tNoPart)) (gName 4) tYes (tCall (spP S_opposite_verdict) [] E0 (tCons (tCall (spP S_verdict) [] E0 (tCons (tVar 4) (tCons (tVar 1) tNil))) tNil)) [4]) tNil)) tNil))) tNext)
  (tSeq (tAsg (tCall (spP S_row_of_name) [] E0 (tCons (tVar 1) (tCons (tOp (rIx8 K) (tVar 0) (tC (.int 1))) tNil))) (gName 3))
  (tSeq (tIfS (L2.tB (tIsN (tVar 3))) (tRet (tC (.str "none"))) tNext)
  (tSeq (tIfS (tTest (tOp (rEqD K) (tVar 2) (tC (.str "in")))) (tRet (tCall (spP S_range_verdict) [] E0 (tCons (tVar 0) (tCons (tVar 3) (tCons (tOp (rIx8 K) (tVar 1) (tC (.int 0))) tNil))))) tNext)
  (tRet (tIf (tTest (tOp (rEqD K) (tOp (rIx8 K) (tVar 3) (tC (.int 1))) (tOp (rIx8 K) (tVar 1) (tC (.int 0))))) (tC (.str "all")) (tC (.str "some")))))))))))))
def w_verdict (S_opposite_verdict S_verdict S_verdict_of_all S_row_of_name S_range_verdict : S8) : WS :=
  (wSeq (wIfS (wB (wOp wEqD (wOp wIx (wVar 1) (wC (.int 0))) (wC (.int 0)))) (wRet (wC (.str "none"))) wNext)
  (wSeq (wAsg (wOp wIx (wVar 0) (wC (.int 0))) (wgName 2))
  (wSeq (wIfS (wB (wOp wEqD (wVar 2) (wC (.str "all")))) (wRet (wC (.str "all"))) wNext)
  (wSeq (wIfS (wB (wOp wEqD (wVar 2) (wC (.str "not")))) (wRet (wCall S_opposite_verdict (wCons (wCall S_verdict (wCons (wOp wIx (wVar 0) (wC (.int 1))) (wCons (wVar 1) wNil))) wNil))) wNext)
  (wSeq (wIfS (wB (wOp wEqD (wVar 2) (wC (.str "and")))) (wRet (wCall S_verdict_of_all (wCons (wL (wLc (wSeq8 (wSl (wVar 0) (wPart (wC (.int 1))) wNoPart)) (wgName 4) wYes (wCall S_verdict (wCons (wVar 4) (wCons (wVar 1) wNil))) [4])) wNil))) wNext)
  (wSeq (wIfS (wB (wOp wEqD (wVar 2) (wC (.str "or")))) (wRet (wCall S_opposite_verdict (wCons (wCall S_verdict_of_all (wCons (wL (wLc (wSeq8 (wSl (wVar 0) (wPart (wC (.int 1))) wNoPart)) (wgName 4) wYes (wCall S_opposite_verdict (wCons (wCall S_verdict (wCons (wVar 4) (wCons (wVar 1) wNil))) wNil)) [4])) wNil)) wNil))) wNext)
  (wSeq (wAsg (wCall S_row_of_name (wCons (wVar 1) (wCons (wOp wIx (wVar 0) (wC (.int 1))) wNil))) (wgName 3))
  (wSeq (wIfS (wB (wIsN (wVar 3))) (wRet (wC (.str "none"))) wNext)
  (wSeq (wIfS (wB (wOp wEqD (wVar 2) (wC (.str "in")))) (wRet (wCall S_range_verdict (wCons (wVar 0) (wCons (wVar 3) (wCons (wOp wIx (wVar 1) (wC (.int 0))) wNil))))) wNext)
  (wRet (wIfE (wB (wOp wEqD (wOp wIx (wVar 3) (wC (.int 1))) (wOp wIx (wVar 1) (wC (.int 0))))) (wC (.str "all")) (wC (.str "some")))))))))))))
theorem snd_verdict {K : PySem.W.Frag} {S_opposite_verdict S_verdict S_verdict_of_all S_row_of_name S_range_verdict : S8} : SndS (t_verdict K S_opposite_verdict S_verdict S_verdict_of_all S_row_of_name S_range_verdict) (w_verdict S_opposite_verdict S_verdict S_verdict_of_all S_row_of_name S_range_verdict) :=
  (s_seq (s_if (snd_test (snd_op r_eq (snd_op r_ix (snd_var 1) (snd_int 0)) (snd_int 0))) (s_ret (snd_str "none")) s_next)
  (s_seq (s_asg (snd_op r_ix (snd_var 0) (snd_int 0)) (g_name 2))
  (s_seq (s_if (snd_test (snd_op r_eq (snd_var 2) (snd_str "all"))) (s_ret (snd_str "all")) s_next)
  (s_seq (s_if (snd_test (snd_op r_eq (snd_var 2) (snd_str "not"))) (s_ret (snd_call (snd_cons (snd_call (snd_cons (snd_op r_ix (snd_var 0) (snd_int 1)) (snd_cons (snd_var 1) snd_nil))) snd_nil))) s_next)
  (s_seq (s_if (snd_test (snd_op r_eq (snd_var 2) (snd_str "and"))) (s_ret (snd_call (snd_cons (snd_L (l_lc (i_seq (snd_sl (snd_var 0) (snd_part (snd_int 1)) snd_noPart)) (g_name 4) (in_name (by decide)) snd_yes (snd_call (snd_cons (snd_var 4) (snd_cons (snd_var 1) snd_nil))))) snd_nil))) s_next)
  (s_seq (s_if (snd_test (snd_op r_eq (snd_var 2) (snd_str "or"))) (s_ret (snd_call (snd_cons (snd_call (snd_cons (snd_L (l_lc (i_seq (snd_sl (snd_var 0) (snd_part (snd_int 1)) snd_noPart)) (g_name 4) (in_name (by decide)) snd_yes (snd_call (snd_cons (snd_call (snd_cons (snd_var 4) (snd_cons (snd_var 1) snd_nil))) snd_nil)))) snd_nil)) snd_nil))) s_next)
  (s_seq (s_asg (snd_call (snd_cons (snd_var 1) (snd_cons (snd_op r_ix (snd_var 0) (snd_int 1)) snd_nil))) (g_name 3))
  (s_seq (s_if (snd_B (snd_isN (snd_var 3))) (s_ret (snd_str "none")) s_next)
  (s_seq (s_if (snd_test (snd_op r_eq (snd_var 2) (snd_str "in"))) (s_ret (snd_call (snd_cons (snd_var 0) (snd_cons (snd_var 3) (snd_cons (snd_op r_ix (snd_var 1) (snd_int 0)) snd_nil))))) s_next)
  (s_ret (snd_ifE (snd_test (snd_op r_eq (snd_op r_ix (snd_var 3) (snd_int 1)) (snd_op r_ix (snd_var 1) (snd_int 0)))) (snd_str "all") (snd_str "some"))))))))))))
theorem ok_verdict {P : Program} {w : World} {K : PySem.W.Frag} {mg : Str → Option Value} {base : Heap} {f : Addr} {fd : FuncData} {k : Nat} {S S_opposite_verdict S_verdict S_verdict_of_all S_row_of_name S_range_verdict : S8}
    (F : Fun K "verdict" "verdict" s_verdict f fd) (bi : Bi mg)
    (c_opposite_verdict : Cal P w K mg base "opposite_verdict" ["word"] k (spP S_opposite_verdict))
    (c_verdict : Cal P w K mg base "verdict" ["sieve", "told"] k (spP S_verdict))
    (c_verdict_of_all : Cal P w K mg base "verdict_of_all" ["words"] k (spP S_verdict_of_all))
    (c_row_of_name : Cal P w K mg base "row_of_name" ["told", "name"] k (spP S_row_of_name))
    (c_range_verdict : Cal P w K mg base "range_verdict" ["sieve", "row", "count"] k (spP S_range_verdict))
    (hlen : ∀ ds P, S ds P → ds.length = 2)
    (lw : ∀ ds P, S ds P → w_verdict S_opposite_verdict S_verdict S_verdict_of_all S_row_of_name S_range_verdict { nx := fun _ => P .none, rt := P } (dats ds 3)) : FnOk P w K mg base CX0 (k + 1) f fd ["sieve", "told"] (spP S) := by
  refine F.ok sc_verdict (len_P hlen) (fun cdv A outer s H vs Q E hr h => ⟨t_verdict K S_opposite_verdict S_verdict S_verdict_of_all S_row_of_name S_range_verdict, ?_, run_P (N := N_verdict) snd_verdict (fun ds P hS => by have e := hlen ds P hS; rw [show N_verdict.length - (ds.length) = 3 by rw [e] <;> rfl]; exact lw ds P hS) h⟩)
  exact (pss_cons (ps_if (pt_cmpR (op_eqD hr.units) (pe_ix ix_8 (pv 1) pe_int (fun _ _ => rfl)) pe_int (nomark _)) (pss_one (ps_ret pe_str)) pss_nil)
    (pss_cons (ps_set (i := 2) sc_verdict.nd rfl (Or.inl rfl) (pe_ix ix_8 (pv 0) pe_int (fun _ _ => rfl)))
    (pss_cons (ps_if (pt_cmpR (op_eqD hr.units) (pv 2) pe_str (nomark _)) (pss_one (ps_ret pe_str)) pss_nil)
    (pss_cons (ps_if (pt_cmpR (op_eqD hr.units) (pv 2) pe_str (nomark _)) (pss_one (ps_ret (pe_cal c_opposite_verdict hr (by rfl) (pa_cons (pe_cal c_verdict hr (by rfl) (pa_cons (pe_ix ix_8 (pv 0) pe_int (fun _ _ => rfl)) (pa_cons (pv 1) pa_nil))) pa_nil)))) pss_nil)
    (pss_cons (ps_if (pt_cmpR (op_eqD hr.units) (pv 2) pe_str (nomark _)) (pss_one (ps_ret (pe_cal c_verdict_of_all hr (by rfl) (pa_cons (pe_lc (own := [("part", 4)]) (wi := (iSeq8 K (L2.tSl (rSlB K) (tVar 0) (tPart (tC (.int 1))) tNoPart))) (g := (gName 4)) (tt := tYes) (te := (tCall (spP S_verdict) [] E0 (tCons (tVar 4) (tCons (tVar 1) tNil)))) (by rfl) sc_verdict.nd (pi_seq8 (pe_slice sl_both (pv 0) (po_some pe_int) po_none)) (blkOk_by (own := [("part", 4)]) (N := N_verdict) (sc := defScope s_verdict) (by decide +kernel)) (fun _ _ _ _ _ => (pg_name (i := 4) sc_verdict.nd rfl (by first | exact Or.inl rfl | exact Or.inr rfl))) (fun _ _ _ _ _ => pts_nil) (fun _ _ _ _ _ => (pe_cal c_verdict hr (by rfl) (pa_cons (pv 4) (pa_cons (pv 1) pa_nil))))) pa_nil)))) pss_nil)
    (pss_cons (ps_if (pt_cmpR (op_eqD hr.units) (pv 2) pe_str (nomark _)) (pss_one (ps_ret (pe_cal c_opposite_verdict hr (by rfl) (pa_cons (pe_cal c_verdict_of_all hr (by rfl) (pa_cons (pe_lc (own := [("part", 4)]) (wi := (iSeq8 K (L2.tSl (rSlB K) (tVar 0) (tPart (tC (.int 1))) tNoPart))) (g := (gName 4)) (tt := tYes) (te := (tCall (spP S_opposite_verdict) [] E0 (tCons (tCall (spP S_verdict) [] E0 (tCons (tVar 4) (tCons (tVar 1) tNil))) tNil))) (by rfl) sc_verdict.nd (pi_seq8 (pe_slice sl_both (pv 0) (po_some pe_int) po_none)) (blkOk_by (own := [("part", 4)]) (N := N_verdict) (sc := defScope s_verdict) (by decide +kernel)) (fun _ _ _ _ _ => (pg_name (i := 4) sc_verdict.nd rfl (by first | exact Or.inl rfl | exact Or.inr rfl))) (fun _ _ _ _ _ => pts_nil) (fun _ _ _ _ _ => (pe_cal c_opposite_verdict hr (by rfl) (pa_cons (pe_cal c_verdict hr (by rfl) (pa_cons (pv 4) (pa_cons (pv 1) pa_nil))) pa_nil)))) pa_nil)) pa_nil)))) pss_nil)
    (pss_cons (ps_set (i := 3) sc_verdict.nd rfl (Or.inl rfl) (pe_cal c_row_of_name hr (by rfl) (pa_cons (pv 1) (pa_cons (pe_ix ix_8 (pv 0) pe_int (fun _ _ => rfl)) pa_nil))))
    (pss_cons (ps_if (pt_cmp (pc_isN (pv 3))) (pss_one (ps_ret pe_str)) pss_nil)
    (pss_cons (ps_if (pt_cmpR (op_eqD hr.units) (pv 2) pe_str (nomark _)) (pss_one (ps_ret (pe_cal c_range_verdict hr (by rfl) (pa_cons (pv 0) (pa_cons (pv 3) (pa_cons (pe_ix ix_8 (pv 1) pe_int (fun _ _ => rfl)) pa_nil)))))) pss_nil)
    (pss_one (ps_ret (pe_ifExp (pt_cmpR (op_eqD hr.units) (pe_ix ix_8 (pv 3) pe_int (fun _ _ => rfl)) (pe_ix ix_8 (pv 1) pe_int (fun _ _ => rfl)) (nomark _)) pe_str pe_str))))))))))))

abbrev s_may_pass : Stmt := topS 12
abbrev N_may_pass : List Str := ["sieve", "told"]
theorem sc_may_pass : FnScope N_may_pass ["sieve", "told"] (defScope s_may_pass) :=
  ⟨rfl, rfl, rfl, by decide +kernel, rfl, by decide +kernel, by decide +kernel⟩
def t_may_pass (K : PySem.W.Frag) (S_verdict : S8) : TS :=
  (tRet (tOp (rNeD K) (tCall (spP S_verdict) [] E0 (tCons (tVar 0) (tCons (tVar 1) tNil))) (tC (.str "none"))))
def w_may_pass (S_verdict : S8) : WS :=
  (wRet (wOp wNeD (wCall S_verdict (wCons (wVar 0) (wCons (wVar 1) wNil))) (wC (.str "none"))))
theorem snd_may_pass {K : PySem.W.Frag} {S_verdict : S8} : SndS (t_may_pass K S_verdict) (w_may_pass S_verdict) :=
  (s_ret (snd_op r_ne (snd_call (snd_cons (snd_var 0) (snd_cons (snd_var 1) snd_nil))) (snd_str "none")))
theorem ok_may_pass {P : Program} {w : World} {K : PySem.W.Frag} {mg : Str → Option Value} {base : Heap} {f : Addr} {fd : FuncData} {k : Nat} {S S_verdict : S8}
    (F : Fun K "may_pass" "may_pass" s_may_pass f fd) (bi : Bi mg)
    (c_verdict : Cal P w K mg base "verdict" ["sieve", "told"] k (spP S_verdict))
    (hlen : ∀ ds P, S ds P → ds.length = 2)
    (lw : ∀ ds P, S ds P → w_may_pass S_verdict { nx := fun _ => P .none, rt := P } (dats ds 0)) : FnOk P w K mg base CX0 (k + 1) f fd ["sieve", "told"] (spP S) := by
  refine F.ok sc_may_pass (len_P hlen) (fun cdv A outer s H vs Q E hr h => ⟨t_may_pass K S_verdict, ?_, run_P (N := N_may_pass) snd_may_pass (fun ds P hS => by have e := hlen ds P hS; rw [show N_may_pass.length - (ds.length) = 0 by rw [e] <;> rfl]; exact lw ds P hS) h⟩)
  exact (pss_one (ps_ret (pe_cmpR (op_neD hr.units) (pe_cal c_verdict hr (by rfl) (pa_cons (pv 0) (pa_cons (pv 1) pa_nil))) pe_str (nomark _))))

abbrev s_must_pass : Stmt := topS 13
abbrev N_must_pass : List Str := ["sieve", "told"]
theorem sc_must_pass : FnScope N_must_pass ["sieve", "told"] (defScope s_must_pass) :=
  ⟨rfl, rfl, rfl, by decide +kernel, rfl, by decide +kernel, by decide +kernel⟩
def t_must_pass (K : PySem.W.Frag) (S_verdict : S8) : TS :=
  (tRet (tOrV (tOp (rEqD K) (tOp (rIx8 K) (tVar 1) (tC (.int 0))) (tC (.int 0))) (tOp (rEqD K) (tCall (spP S_verdict) [] E0 (tCons (tVar 0) (tCons (tVar 1) tNil))) (tC (.str "all")))))
def w_must_pass (S_verdict : S8) : WS :=
  (wRet (wOrV (wOp wEqD (wOp wIx (wVar 1) (wC (.int 0))) (wC (.int 0))) (wOp wEqD (wCall S_verdict (wCons (wVar 0) (wCons (wVar 1) wNil))) (wC (.str "all")))))
theorem snd_must_pass {K : PySem.W.Frag} {S_verdict : S8} : SndS (t_must_pass K S_verdict) (w_must_pass S_verdict) :=
  (s_ret (snd_orV (snd_op r_eq (snd_op r_ix (snd_var 1) (snd_int 0)) (snd_int 0)) (snd_op r_eq (snd_call (snd_cons (snd_var 0) (snd_cons (snd_var 1) snd_nil))) (snd_str "all"))))
theorem ok_must_pass {P : Program} {w : World} {K : PySem.W.Frag} {mg : Str → Option Value} {base : Heap} {f : Addr} {fd : FuncData} {k : Nat} {S S_verdict : S8}
    (F : Fun K "must_pass" "must_pass" s_must_pass f fd) (bi : Bi mg)
    (c_verdict : Cal P w K mg base "verdict" ["sieve", "told"] k (spP S_verdict))
    (hlen : ∀ ds P, S ds P → ds.length = 2)
    (lw : ∀ ds P, S ds P → w_must_pass S_verdict { nx := fun _ => P .none, rt := P } (dats ds 0)) : FnOk P w K mg base CX0 (k + 1) f fd ["sieve", "told"] (spP S) := by
  refine F.ok sc_must_pass (len_P hlen) (fun cdv A outer s H vs Q E hr h => ⟨t_must_pass K S_verdict, ?_, run_P (N := N_must_pass) snd_must_pass (fun ds P hS => by have e := hlen ds P hS; rw [show N_must_pass.length - (ds.length) = 0 by rw [e] <;> rfl]; exact lw ds P hS) h⟩)
  exact (pss_one (ps_ret (pe_or (pe_cmpR (op_eqD hr.units) (pe_ix ix_8 (pv 1) pe_int (fun _ _ => rfl)) pe_int (nomark _)) (pe_one (pe_cmpR (op_eqD hr.units) (pe_cal c_verdict hr (by rfl) (pa_cons (pv 0) (pa_cons (pv 1) pa_nil))) pe_str (nomark _))))))

abbrev s_lets_by : Stmt := topS 15
abbrev N_lets_by : List Str := ["sieve", "labels", "value", "part"]
theorem sc_lets_by : FnScope N_lets_by ["sieve", "labels"] (defScope s_lets_by) :=
  ⟨rfl, rfl, rfl, by decide +kernel, rfl, by decide +kernel, by decide +kernel⟩
def t_lets_by (K : PySem.W.Frag) (S_lets_by S_label_in : S8) : TS :=
  (tSeq (tIfS (tTest (tOp (rEqD K) (tOp (rIx8 K) (tVar 0) (tC (.int 0))) (tC (.str "all")))) (tRet (tC (.bl true))) tNext)
  (tSeq (tIfS (tTest (tOp (rEqD K) (tOp (rIx8 K) (tVar 0) (tC (.int 0))) (tC (.str "not")))) (tRet (tNotV (tCall (spP S_lets_by) [] E0 (tCons (tOp (rIx8 K) (tVar 0) (tC (.int 1))) (tCons (tVar 1) tNil))))) tNext)
  (tSeq (tIfS (tTest (tOp (rEqD K) (tOp (rIx8 K) (tVar 0) (tC (.int 0))) (tC (.str "and")))) (tRet (tCB (rAll K) (tCons (tLc (iSeq8 K (L2.tSl (rSlB K) (tVar 0) (tPart (tC (.int 1))) tNoPart)) (gName 3) tYes (tCall (spP S_lets_by) [] E0 (tCons (tVar 3) (tCons (tVar 1) tNil))) [3]) tNil))) tNext)
  (tSeq (tIfS (tTest (tOp (rEqD K) (tOp (rIx8 K) (tVar 0) (tC (.int 0))) (tC (.str "or")))) (tRet (tCB (rAny K) (tCons (tLc (iSeq8 K (L2.tSl (rSlB K) (tVar 0) (tPart (tC (.int 1))) tNoPart)) (gName 3) tYes (tCall (spP S_lets_by) [] E0 (tCons (tVar 3) (tCons (tVar 1) tNil))) [3]) tNil))) tNext)
  (tSeq (tAsg (tCall (spP S_label_in) [] E0 (tCons (tVar 1) (tCons (tOp (rIx8 K) (tVar 0) (tC (.int 1))) tNil))) (gName 2))
  (tRet (tAndV (tNotN (tVar 2)) (tOrV (tOp (rEqD K) (tOp (rIx8 K) (tVar 0) (tC (.int 0))) (tC (.str "has"))) (tChain (rI0 fun i j => .bl (decide (i ≤ j))) (rI0 fun i j => .bl (decide (i ≤ j))) (tOp (rIx8 K) (tVar 0) (tC (.int 2))) (tVar 2) (tOp (rIx8 K) (tVar 0) (tC (.int 3))))))))))))
def w_lets_by (S_lets_by S_label_in : S8) : WS :=
  (wSeq (wIfS (wB (wOp wEqD (wOp wIx (wVar 0) (wC (.int 0))) (wC (.str "all")))) (wRet (wC (.bool true))) wNext)
  (wSeq (wIfS (wB (wOp wEqD (wOp wIx (wVar 0) (wC (.int 0))) (wC (.str "not")))) (wRet (wNotV (wCall S_lets_by (wCons (wOp wIx (wVar 0) (wC (.int 1))) (wCons (wVar 1) wNil))))) wNext)
  (wSeq (wIfS (wB (wOp wEqD (wOp wIx (wVar 0) (wC (.int 0))) (wC (.str "and")))) (wRet (wCB wAll (wCons (wL (wLc (wSeq8 (wSl (wVar 0) (wPart (wC (.int 1))) wNoPart)) (wgName 3) wYes (wCall S_lets_by (wCons (wVar 3) (wCons (wVar 1) wNil))) [3])) wNil))) wNext)
  (wSeq (wIfS (wB (wOp wEqD (wOp wIx (wVar 0) (wC (.int 0))) (wC (.str "or")))) (wRet (wCB wAny (wCons (wL (wLc (wSeq8 (wSl (wVar 0) (wPart (wC (.int 1))) wNoPart)) (wgName 3) wYes (wCall S_lets_by (wCons (wVar 3) (wCons (wVar 1) wNil))) [3])) wNil))) wNext)
  (wSeq (wAsg (wCall S_label_in (wCons (wVar 1) (wCons (wOp wIx (wVar 0) (wC (.int 1))) wNil))) (wgName 2))
  (wRet (wAndV (wNotN (wVar 2)) (wOrV (wOp wEqD (wOp wIx (wVar 0) (wC (.int 0))) (wC (.str "has"))) (wChain (wI (fun _ _ => True) fun i j => .bool (decide (i ≤ j))) (wI (fun _ _ => True) fun i j => .bool (decide (i ≤ j))) (wOp wIx (wVar 0) (wC (.int 2))) (wVar 2) (wOp wIx (wVar 0) (wC (.int 3))))))))))))
theorem snd_lets_by {K : PySem.W.Frag} {S_lets_by S_label_in : S8} : SndS (t_lets_by K S_lets_by S_label_in) (w_lets_by S_lets_by S_label_in) :=
  (s_seq (s_if (snd_test (snd_op r_eq (snd_op r_ix (snd_var 0) (snd_int 0)) (snd_str "all"))) (s_ret (snd_bl true)) s_next)
  (s_seq (s_if (snd_test (snd_op r_eq (snd_op r_ix (snd_var 0) (snd_int 0)) (snd_str "not"))) (s_ret (snd_notV (snd_call (snd_cons (snd_op r_ix (snd_var 0) (snd_int 1)) (snd_cons (snd_var 1) snd_nil))))) s_next)
  (s_seq (s_if (snd_test (snd_op r_eq (snd_op r_ix (snd_var 0) (snd_int 0)) (snd_str "and"))) (s_ret (snd_cb c_all (snd_cons (snd_L (l_lc (i_seq (snd_sl (snd_var 0) (snd_part (snd_int 1)) snd_noPart)) (g_name 3) (in_name (by decide)) snd_yes (snd_call (snd_cons (snd_var 3) (snd_cons (snd_var 1) snd_nil))))) snd_nil))) s_next)
  (s_seq (s_if (snd_test (snd_op r_eq (snd_op r_ix (snd_var 0) (snd_int 0)) (snd_str "or"))) (s_ret (snd_cb c_any (snd_cons (snd_L (l_lc (i_seq (snd_sl (snd_var 0) (snd_part (snd_int 1)) snd_noPart)) (g_name 3) (in_name (by decide)) snd_yes (snd_call (snd_cons (snd_var 3) (snd_cons (snd_var 1) snd_nil))))) snd_nil))) s_next)
  (s_seq (s_asg (snd_call (snd_cons (snd_var 1) (snd_cons (snd_op r_ix (snd_var 0) (snd_int 1)) snd_nil))) (g_name 2))
  (s_ret (snd_andV (snd_notN (snd_var 2)) (snd_orV (snd_op r_eq (snd_op r_ix (snd_var 0) (snd_int 0)) (snd_str "has")) (snd_chain r_B0 r_B0 (snd_op r_ix (snd_var 0) (snd_int 2)) (snd_var 2) (snd_op r_ix (snd_var 0) (snd_int 3)))))))))))
theorem ok_lets_by {P : Program} {w : World} {K : PySem.W.Frag} {mg : Str → Option Value} {base : Heap} {f : Addr} {fd : FuncData} {k : Nat} {S S_lets_by S_label_in : S8}
    (F : Fun K "lets_by" "lets_by" s_lets_by f fd) (bi : Bi mg)
    (c_lets_by : Cal P w K mg base "lets_by" ["sieve", "labels"] k (spP S_lets_by))
    (c_label_in : Cal P w K mg base "label_in" ["labels", "name"] k (spP S_label_in))
    (hlen : ∀ ds P, S ds P → ds.length = 2)
    (lw : ∀ ds P, S ds P → w_lets_by S_lets_by S_label_in { nx := fun _ => P .none, rt := P } (dats ds 2)) : FnOk P w K mg base CX0 (k + 1) f fd ["sieve", "labels"] (spP S) := by
  refine F.ok sc_lets_by (len_P hlen) (fun cdv A outer s H vs Q E hr h => ⟨t_lets_by K S_lets_by S_label_in, ?_, run_P (N := N_lets_by) snd_lets_by (fun ds P hS => by have e := hlen ds P hS; rw [show N_lets_by.length - (ds.length) = 2 by rw [e] <;> rfl]; exact lw ds P hS) h⟩)
  exact (pss_cons (ps_if (pt_cmpR (op_eqD hr.units) (pe_ix ix_8 (pv 0) pe_int (fun _ _ => rfl)) pe_str (nomark _)) (pss_one (ps_ret pe_bl)) pss_nil)
    (pss_cons (ps_if (pt_cmpR (op_eqD hr.units) (pe_ix ix_8 (pv 0) pe_int (fun _ _ => rfl)) pe_str (nomark _)) (pss_one (ps_ret (pe_not (pe_cal c_lets_by hr (by rfl) (pa_cons (pe_ix ix_8 (pv 0) pe_int (fun _ _ => rfl)) (pa_cons (pv 1) pa_nil)))))) pss_nil)
    (pss_cons (ps_if (pt_cmpR (op_eqD hr.units) (pe_ix ix_8 (pv 0) pe_int (fun _ _ => rfl)) pe_str (nomark _)) (pss_one (ps_ret (pe_callB (cr_all (by rfl)) (by rfl) bi.all bo_all (pa_cons (pe_lc (own := [("part", 3)]) (wi := (iSeq8 K (L2.tSl (rSlB K) (tVar 0) (tPart (tC (.int 1))) tNoPart))) (g := (gName 3)) (tt := tYes) (te := (tCall (spP S_lets_by) [] E0 (tCons (tVar 3) (tCons (tVar 1) tNil)))) (by rfl) sc_lets_by.nd (pi_seq8 (pe_slice sl_both (pv 0) (po_some pe_int) po_none)) (blkOk_by (own := [("part", 3)]) (N := N_lets_by) (sc := defScope s_lets_by) (by decide +kernel)) (fun _ _ _ _ _ => (pg_name (i := 3) sc_lets_by.nd rfl (by first | exact Or.inl rfl | exact Or.inr rfl))) (fun _ _ _ _ _ => pts_nil) (fun _ _ _ _ _ => (pe_cal c_lets_by hr (by rfl) (pa_cons (pv 3) (pa_cons (pv 1) pa_nil))))) pa_nil)))) pss_nil)
    (pss_cons (ps_if (pt_cmpR (op_eqD hr.units) (pe_ix ix_8 (pv 0) pe_int (fun _ _ => rfl)) pe_str (nomark _)) (pss_one (ps_ret (pe_callB (cr_any (by rfl)) (by rfl) bi.any bo_any (pa_cons (pe_lc (own := [("part", 3)]) (wi := (iSeq8 K (L2.tSl (rSlB K) (tVar 0) (tPart (tC (.int 1))) tNoPart))) (g := (gName 3)) (tt := tYes) (te := (tCall (spP S_lets_by) [] E0 (tCons (tVar 3) (tCons (tVar 1) tNil)))) (by rfl) sc_lets_by.nd (pi_seq8 (pe_slice sl_both (pv 0) (po_some pe_int) po_none)) (blkOk_by (own := [("part", 3)]) (N := N_lets_by) (sc := defScope s_lets_by) (by decide +kernel)) (fun _ _ _ _ _ => (pg_name (i := 3) sc_lets_by.nd rfl (by first | exact Or.inl rfl | exact Or.inr rfl))) (fun _ _ _ _ _ => pts_nil) (fun _ _ _ _ _ => (pe_cal c_lets_by hr (by rfl) (pa_cons (pv 3) (pa_cons (pv 1) pa_nil))))) pa_nil)))) pss_nil)
    (pss_cons (ps_set (i := 2) sc_lets_by.nd rfl (Or.inl rfl) (pe_cal c_label_in hr (by rfl) (pa_cons (pv 1) (pa_cons (pe_ix ix_8 (pv 0) pe_int (fun _ _ => rfl)) pa_nil))))
    (pss_one (ps_ret (pe_and (pe_cmp (pc_notN (pv 2))) (pe_one (pe_or (pe_cmpR (op_eqD hr.units) (pe_ix ix_8 (pv 0) pe_int (fun _ _ => rfl)) pe_str (nomark _)) (pe_one (pe_chain op_le op_le (pe_ix ix_8 (pv 0) pe_int (fun _ _ => rfl)) (pv 2) (pe_ix ix_8 (pv 0) pe_int (fun _ _ => rfl))))))))))))))

abbrev s_passes : Stmt := topS 16
abbrev N_passes : List Str := ["sieve", "item"]
theorem sc_passes : FnScope N_passes ["sieve", "item"] (defScope s_passes) :=
  ⟨rfl, rfl, rfl, by decide +kernel, rfl, by decide +kernel, by decide +kernel⟩
def t_passes (K : PySem.W.Frag) (S_lets_by : S8) : TS :=
  (tRet (tCall (spP S_lets_by) [] E0 (tCons (tVar 0) (tCons (tOp (rIx8 K) (tVar 1) (tC (.int 2))) tNil))))
def w_passes (S_lets_by : S8) : WS :=
  (wRet (wCall S_lets_by (wCons (wVar 0) (wCons (wOp wIx (wVar 1) (wC (.int 2))) wNil))))
theorem snd_passes {K : PySem.W.Frag} {S_lets_by : S8} : SndS (t_passes K S_lets_by) (w_passes S_lets_by) :=
  (s_ret (snd_call (snd_cons (snd_var 0) (snd_cons (snd_op r_ix (snd_var 1) (snd_int 2)) snd_nil))))
theorem ok_passes {P : Program} {w : World} {K : PySem.W.Frag} {mg : Str → Option Value} {base : Heap} {f : Addr} {fd : FuncData} {k : Nat} {S S_lets_by : S8}
    (F : Fun K "passes" "passes" s_passes f fd) (bi : Bi mg)
    (c_lets_by : Cal P w K mg base "lets_by" ["sieve", "labels"] k (spP S_lets_by))
    (hlen : ∀ ds P, S ds P → ds.length = 2)
    (lw : ∀ ds P, S ds P → w_passes S_lets_by { nx := fun _ => P .none, rt := P } (dats ds 0)) : FnOk P w K mg base CX0 (k + 1) f fd ["sieve", "item"] (spP S) := by
  refine F.ok sc_passes (len_P hlen) (fun cdv A outer s H vs Q E hr h => ⟨t_passes K S_lets_by, ?_, run_P (N := N_passes) snd_passes (fun ds P hS => by have e := hlen ds P hS; rw [show N_passes.length - (ds.length) = 0 by rw [e] <;> rfl]; exact lw ds P hS) h⟩)
  exact (pss_one (ps_ret (pe_cal c_lets_by hr (by rfl) (pa_cons (pv 0) (pa_cons (pe_ix ix_8 (pv 1) pe_int (fun _ _ => rfl)) pa_nil)))))

end D8
namespace D8
open PySem PySem.Spec PyProof.Rows L2
abbrev s_law_pick : Stmt := topS 20
abbrev N_law_pick : List Str := ["_law_heap_here", "_law_some"]
theorem sc_law_pick : FnScope N_law_pick ["_law_heap_here", "_law_some"] (defScope s_law_pick) :=
  ⟨rfl, rfl, rfl, by decide +kernel, rfl, by decide +kernel, by decide +kernel⟩
def t_law_pick (K : PySem.W.Frag) (S_law_draw : S8) : TS :=
  (tRet (tOp (rIx8 K) (tVar 1) (tCall (spH S_law_draw) [] E0 (tCons (tVar 0) (tCons (tCB (rLen8 K) (tCons (tVar 1) tNil)) tNil)))))
def w_law_pick (S_law_draw : S8) : WS :=
  (wRet (wOp wIx (wVar 1) (wCallH S_law_draw 0 (wCons (wCB wLen (wCons (wVar 1) wNil)) wNil))))
theorem snd_law_pick {K : PySem.W.Frag} {S_law_draw : S8} : SndS (t_law_pick K S_law_draw) (w_law_pick S_law_draw) :=
  (s_ret (snd_op r_ix (snd_var 1) (snd_callH (snd_cons (snd_cb c_len (snd_cons (snd_var 1) snd_nil)) snd_nil))))
theorem ok_law_pick {P : Program} {w : World} {K : PySem.W.Frag} {mg : Str → Option Value} {base : Heap} {f : Addr} {fd : FuncData} {k : Nat} {S S_law_draw : S8}
    (F : Fun K "_law_pick" "_law_pick" s_law_pick f fd) (bi : Bi mg)
    (c_law_draw : Cal P w K mg base "_law_draw" ["_law_heap_here", "_law_many"] k (spH S_law_draw))
    (hlen : ∀ ds P, S ds P → ds.length + 1 = 2)
    (lw : ∀ ds P, S ds P → w_law_pick S_law_draw { nx := fun _ => P .none, rt := P } (.heap :: dats ds 0)) : FnOk P w K mg base CX0 (k + 1) f fd ["_law_heap_here", "_law_some"] (spH S) := by
  refine F.ok sc_law_pick (len_H hlen) (fun cdv A outer s H vs Q E hr h => ⟨t_law_pick K S_law_draw, ?_, run_H (N := N_law_pick) snd_law_pick (fun ds P hS => by have e := hlen ds P hS; rw [show N_law_pick.length - (ds.length + 1) = 0 by rw [e] <;> rfl]; exact lw ds P hS) h⟩)
  exact (pss_one (ps_ret (pe_ix ix_8 (pv 1) (pe_cal c_law_draw hr (by rfl) (pa_cons (pv 0) (pa_cons (pe_callB k_len (by rfl) bi.len bo_len (pa_cons (pv 1) pa_nil)) pa_nil))) (fun _ _ => rfl))))

abbrev s_law_names : Stmt := topS 22
abbrev N_law_names : List Str := ["_law_heap_here", "_law_many", "_law_some"]
theorem sc_law_names : FnScope N_law_names ["_law_heap_here", "_law_many"] (defScope s_law_names) :=
  ⟨rfl, rfl, rfl, by decide +kernel, rfl, by decide +kernel, by decide +kernel⟩
def t_law_names (K : PySem.W.Frag) (S_law_mixed : S8) : TS :=
  (tSeq (tAsg (tCall (spH S_law_mixed) [] E0 (tCons (tVar 0) (tCons (tLst (tCons (tC (.str "a")) (tCons (tC (.str "ab")) (tCons (tC (.str "b")) (tCons (tC (.str "size")) (tCons (tC (.str "sizes")) (tCons (tC (.str "tall")) (tCons (tC (.str "zzzzzzzz")) (tCons (tC (.str "q")) tNil))))))))) tNil))) (gName 2))
  (tRet (tCB (rSortedS K) (tCons (L2.tSl (rSlB K) (tVar 2) tNoPart (tPart (tVar 1))) tNil))))
def w_law_names (S_law_mixed : S8) : WS :=
  (wSeq (wAsg (wCallH S_law_mixed 0 (wCons (wLst (wCons (wC (.str "a")) (wCons (wC (.str "ab")) (wCons (wC (.str "b")) (wCons (wC (.str "size")) (wCons (wC (.str "sizes")) (wCons (wC (.str "tall")) (wCons (wC (.str "zzzzzzzz")) (wCons (wC (.str "q")) wNil))))))))) wNil)) (wgName 2))
  (wRet (wCB wSortS (wCons (wSl (wVar 2) wNoPart (wPart (wVar 1))) wNil))))
theorem snd_law_names {K : PySem.W.Frag} {S_law_mixed : S8} : SndS (t_law_names K S_law_mixed) (w_law_names S_law_mixed) :=
  (s_seq (s_asg (snd_callH (snd_cons (snd_lst (snd_cons (snd_str "a") (snd_cons (snd_str "ab") (snd_cons (snd_str "b") (snd_cons (snd_str "size") (snd_cons (snd_str "sizes") (snd_cons (snd_str "tall") (snd_cons (snd_str "zzzzzzzz") (snd_cons (snd_str "q") snd_nil))))))))) snd_nil)) (g_name 2))
  (s_ret (snd_cb c_sortS (snd_cons (snd_sl (snd_var 2) snd_noPart (snd_part (snd_var 1))) snd_nil))))
theorem ok_law_names {P : Program} {w : World} {K : PySem.W.Frag} {mg : Str → Option Value} {base : Heap} {f : Addr} {fd : FuncData} {k : Nat} {S S_law_mixed : S8}
    (F : Fun K "_law_names" "_law_names" s_law_names f fd) (bi : Bi mg)
    (c_law_mixed : Cal P w K mg base "_law_mixed" ["_law_heap_here", "_law_some"] k (spH S_law_mixed))
    (hlen : ∀ ds P, S ds P → ds.length + 1 = 2)
    (lw : ∀ ds P, S ds P → w_law_names S_law_mixed { nx := fun _ => P .none, rt := P } (.heap :: dats ds 1)) : FnOk P w K mg base CX0 (k + 1) f fd ["_law_heap_here", "_law_many"] (spH S) := by
  refine F.ok sc_law_names (len_H hlen) (fun cdv A outer s H vs Q E hr h => ⟨t_law_names K S_law_mixed, ?_, run_H (N := N_law_names) snd_law_names (fun ds P hS => by have e := hlen ds P hS; rw [show N_law_names.length - (ds.length + 1) = 1 by rw [e] <;> rfl]; exact lw ds P hS) h⟩)
  exact (pss_cons (ps_set (i := 2) sc_law_names.nd rfl (Or.inl rfl) (pe_cal c_law_mixed hr (by rfl) (pa_cons (pv 0) (pa_cons (pe_lst (pa_cons pe_str (pa_cons pe_str (pa_cons pe_str (pa_cons pe_str (pa_cons pe_str (pa_cons pe_str (pa_cons pe_str (pa_cons pe_str pa_nil))))))))) pa_nil))))
    (pss_one (ps_ret (pe_callB cr_sortedS (by rfl) bi.sorted bo_sorted (pa_cons (pe_slice sl_both (pv 2) po_none (po_some (pv 1))) pa_nil)))))

abbrev s_law_single : Stmt := topS 23
abbrev N_law_single : List Str := ["_law_heap_here", "_law_names_here", "_law_span", "_law_name", "_law_low"]
theorem sc_law_single : FnScope N_law_single ["_law_heap_here", "_law_names_here", "_law_span"] (defScope s_law_single) :=
  ⟨rfl, rfl, rfl, by decide +kernel, rfl, by decide +kernel, by decide +kernel⟩
def t_law_single (K : PySem.W.Frag) (S_law_pick S_law_draw : S8) : TS :=
  (tSeq (tAsg (tCall (spH S_law_pick) [] E0 (tCons (tVar 0) (tCons (tVar 1) tNil))) (gName 3))
  (tSeq (tIfS (tTest (tOp (rEqD K) (tCall (spH S_law_draw) [] E0 (tCons (tVar 0) (tCons (tC (.int 3)) tNil))) (tC (.int 0)))) (tRet (tTup (tCons (tC (.str "has")) (tCons (tVar 3) tNil)))) tNext)
  (tSeq (tAsg (tOp (rI0 fun i j => .int (i - j)) (tCall (spH S_law_draw) [] E0 (tCons (tVar 0) (tCons (tVar 2) tNil))) (tC (.int 2))) (gName 4))
  (tRet (tTup (tCons (tC (.str "in")) (tCons (tVar 3) (tCons (tVar 4) (tCons (tOp (rI0 fun i j => .int (i + j)) (tVar 4) (tCall (spH S_law_pick) [] E0 (tCons (tVar 0) (tCons (tLst (tCons (tC (.int 0)) (tCons (tC (.int 0)) (tCons (tC (.int 1)) (tCons (tC (.int 2)) (tCons (tVar 2) tNil)))))) tNil)))) tNil)))))))))
def w_law_single (S_law_pick S_law_draw : S8) : WS :=
  (wSeq (wAsg (wCallH S_law_pick 0 (wCons (wVar 1) wNil)) (wgName 3))
  (wSeq (wIfS (wB (wOp wEqD (wCallH S_law_draw 0 (wCons (wC (.int 3)) wNil)) (wC (.int 0)))) (wRet (wTup (wCons (wC (.str "has")) (wCons (wVar 3) wNil)))) wNext)
  (wSeq (wAsg (wOp (wI (fun _ _ => True) fun i j => .int (i - j)) (wCallH S_law_draw 0 (wCons (wVar 2) wNil)) (wC (.int 2))) (wgName 4))
  (wRet (wTup (wCons (wC (.str "in")) (wCons (wVar 3) (wCons (wVar 4) (wCons (wOp (wI (fun _ _ => True) fun i j => .int (i + j)) (wVar 4) (wCallH S_law_pick 0 (wCons (wLst (wCons (wC (.int 0)) (wCons (wC (.int 0)) (wCons (wC (.int 1)) (wCons (wC (.int 2)) (wCons (wVar 2) wNil)))))) wNil))) wNil)))))))))
theorem snd_law_single {K : PySem.W.Frag} {S_law_pick S_law_draw : S8} : SndS (t_law_single K S_law_pick S_law_draw) (w_law_single S_law_pick S_law_draw) :=
  (s_seq (s_asg (snd_callH (snd_cons (snd_var 1) snd_nil)) (g_name 3))
  (s_seq (s_if (snd_test (snd_op r_eq (snd_callH (snd_cons (snd_int 3) snd_nil)) (snd_int 0))) (s_ret (snd_tup (snd_cons (snd_str "has") (snd_cons (snd_var 3) snd_nil)))) s_next)
  (s_seq (s_asg (snd_op r_I0 (snd_callH (snd_cons (snd_var 2) snd_nil)) (snd_int 2)) (g_name 4))
  (s_ret (snd_tup (snd_cons (snd_str "in") (snd_cons (snd_var 3) (snd_cons (snd_var 4) (snd_cons (snd_op r_I0 (snd_var 4) (snd_callH (snd_cons (snd_lst (snd_cons (snd_int 0) (snd_cons (snd_int 0) (snd_cons (snd_int 1) (snd_cons (snd_int 2) (snd_cons (snd_var 2) snd_nil)))))) snd_nil))) snd_nil)))))))))
theorem ok_law_single {P : Program} {w : World} {K : PySem.W.Frag} {mg : Str → Option Value} {base : Heap} {f : Addr} {fd : FuncData} {k : Nat} {S S_law_pick S_law_draw : S8}
    (F : Fun K "_law_single" "_law_single" s_law_single f fd) (bi : Bi mg)
    (c_law_pick : Cal P w K mg base "_law_pick" ["_law_heap_here", "_law_some"] k (spH S_law_pick))
    (c_law_draw : Cal P w K mg base "_law_draw" ["_law_heap_here", "_law_many"] k (spH S_law_draw))
    (hlen : ∀ ds P, S ds P → ds.length + 1 = 3)
    (lw : ∀ ds P, S ds P → w_law_single S_law_pick S_law_draw { nx := fun _ => P .none, rt := P } (.heap :: dats ds 2)) : FnOk P w K mg base CX0 (k + 1) f fd ["_law_heap_here", "_law_names_here", "_law_span"] (spH S) := by
  refine F.ok sc_law_single (len_H hlen) (fun cdv A outer s H vs Q E hr h => ⟨t_law_single K S_law_pick S_law_draw, ?_, run_H (N := N_law_single) snd_law_single (fun ds P hS => by have e := hlen ds P hS; rw [show N_law_single.length - (ds.length + 1) = 2 by rw [e] <;> rfl]; exact lw ds P hS) h⟩)
  exact (pss_cons (ps_set (i := 3) sc_law_single.nd rfl (Or.inl rfl) (pe_cal c_law_pick hr (by rfl) (pa_cons (pv 0) (pa_cons (pv 1) pa_nil))))
    (pss_cons (ps_if (pt_cmpR (op_eqD hr.units) (pe_cal c_law_draw hr (by rfl) (pa_cons (pv 0) (pa_cons pe_int pa_nil))) pe_int (nomark _)) (pss_one (ps_ret (pe_tup (pa_cons pe_str (pa_cons (pv 3) pa_nil))))) pss_nil)
    (pss_cons (ps_set (i := 4) sc_law_single.nd rfl (Or.inl rfl) (pe_op op_sub (pe_cal c_law_draw hr (by rfl) (pa_cons (pv 0) (pa_cons (pv 2) pa_nil))) pe_int))
    (pss_one (ps_ret (pe_tup (pa_cons pe_str (pa_cons (pv 3) (pa_cons (pv 4) (pa_cons (pe_op op_add (pv 4) (pe_cal c_law_pick hr (by rfl) (pa_cons (pv 0) (pa_cons (pe_lst (pa_cons pe_int (pa_cons pe_int (pa_cons pe_int (pa_cons pe_int (pa_cons (pv 2) pa_nil)))))) pa_nil)))) pa_nil))))))))))

abbrev s_law_sieve : Stmt := topS 24
abbrev N_law_sieve : List Str := ["_law_heap_here", "_law_names_here", "_law_span", "_law_depth", "_law_word", "_law_parts", "_law_turn"]
theorem sc_law_sieve : FnScope N_law_sieve ["_law_heap_here", "_law_names_here", "_law_span", "_law_depth"] (defScope s_law_sieve) :=
  ⟨rfl, rfl, rfl, by decide +kernel, rfl, by decide +kernel, by decide +kernel⟩
def t_law_sieve (K : PySem.W.Frag) (S_law_pick S_law_draw S_law_single S_law_sieve : S8) : TS :=
  (tSeq (tAsg (tIf (tTest (tOp (rI0 fun i j => .bl (decide (j < i))) (tVar 3) (tC (.int 0)))) (tCall (spH S_law_pick) [] E0 (tCons (tVar 0) (tCons (tLst (tCons (tC (.str "has")) (tCons (tC (.str "in")) (tCons (tC (.str "not")) (tCons (tC (.str "and")) (tCons (tC (.str "or")) (tCons (tC (.str "and")) (tCons (tC (.str "or")) (tCons (tC (.str "all")) tNil))))))))) tNil))) (tC (.str "in"))) (gName 4))
  (tSeq (tIfS (tTest (tOp (rEqD K) (tVar 4) (tC (.str "all")))) (tRet (tIf (tTest (tOp (rEqD K) (tCall (spH S_law_draw) [] E0 (tCons (tVar 0) (tCons (tC (.int 2)) tNil))) (tC (.int 0)))) (tTup (tCons (tC (.str "all")) tNil)) (tCall (spH S_law_single) [] E0 (tCons (tVar 0) (tCons (tVar 1) (tCons (tVar 2) tNil)))))) tNext)
  (tSeq (tIfS (tTest (tOp (rEqD K) (tVar 4) (tC (.str "not")))) (tRet (tTup (tCons (tC (.str "not")) (tCons (tCall (spH S_law_sieve) [] E0 (tCons (tVar 0) (tCons (tVar 1) (tCons (tVar 2) (tCons (tOp (rI0 fun i j => .int (i - j)) (tVar 3) (tC (.int 1))) tNil))))) tNil)))) tNext)
  (tSeq (tIfS (tTest (tOp (rInD K) (tVar 4) (tLst (tCons (tC (.str "and")) (tCons (tC (.str "or")) tNil))))) (tSeq (tAsg (tLc (iRng1 (tCons (tOp (rI0 fun i j => .int (i + j)) (tC (.int 2)) (tCall (spH S_law_draw) [] E0 (tCons (tVar 0) (tCons (tC (.int 2)) tNil)))) tNil)) (gName 6) tYes (tCall (spH S_law_sieve) [] E0 (tCons (tVar 0) (tCons (tVar 1) (tCons (tVar 2) (tCons (tOp (rI0 fun i j => .int (i - j)) (tVar 3) (tC (.int 1))) tNil))))) [6]) (gName 5))
  (tSeq (tIfS (tTest (tOp (rEqD K) (tCall (spH S_law_draw) [] E0 (tCons (tVar 0) (tCons (tC (.int 5)) tNil))) (tC (.int 0)))) (tDrop (tBM K "list" rAppend (tVar 5) (tCons (tCall (spH S_law_pick) [] E0 (tCons (tVar 0) (tCons (tLst (tCons (tOp (rIx8 K) (tVar 5) (tC (.int 0))) (tCons (tTup (tCons (tC (.str "not")) (tCons (tOp (rIx8 K) (tVar 5) (tC (.int 0))) tNil))) tNil))) tNil))) tNil))) tNext)
  (tRet (tOp (rCatT K) (tTup (tCons (tVar 4) tNil)) (tCB (rTupOf K) (tCons (tVar 5) tNil)))))) tNext)
  (tRet (tCall (spH S_law_single) [] E0 (tCons (tVar 0) (tCons (tVar 1) (tCons (tVar 2) tNil)))))))))
def w_law_sieve (S_law_pick S_law_draw S_law_single S_law_sieve : S8) : WS :=
  (wSeq (wAsg (wIfE (wB (wOp (wI (fun _ _ => True) fun i j => .bool (decide (j < i))) (wVar 3) (wC (.int 0)))) (wCallH S_law_pick 0 (wCons (wLst (wCons (wC (.str "has")) (wCons (wC (.str "in")) (wCons (wC (.str "not")) (wCons (wC (.str "and")) (wCons (wC (.str "or")) (wCons (wC (.str "and")) (wCons (wC (.str "or")) (wCons (wC (.str "all")) wNil))))))))) wNil)) (wC (.str "in"))) (wgName 4))
  (wSeq (wIfS (wB (wOp wEqD (wVar 4) (wC (.str "all")))) (wRet (wIfE (wB (wOp wEqD (wCallH S_law_draw 0 (wCons (wC (.int 2)) wNil)) (wC (.int 0)))) (wTup (wCons (wC (.str "all")) wNil)) (wCallH S_law_single 0 (wCons (wVar 1) (wCons (wVar 2) wNil))))) wNext)
  (wSeq (wIfS (wB (wOp wEqD (wVar 4) (wC (.str "not")))) (wRet (wTup (wCons (wC (.str "not")) (wCons (wCallH S_law_sieve 0 (wCons (wVar 1) (wCons (wVar 2) (wCons (wOp (wI (fun _ _ => True) fun i j => .int (i - j)) (wVar 3) (wC (.int 1))) wNil)))) wNil)))) wNext)
  (wSeq (wIfS (wB (wOp wInD (wVar 4) (wLst (wCons (wC (.str "and")) (wCons (wC (.str "or")) wNil))))) (wSeq (wOwn (wLc (wRng1 (wCons (wOp (wI (fun _ _ => True) fun i j => .int (i + j)) (wC (.int 2)) (wCallH S_law_draw 0 (wCons (wC (.int 2)) wNil))) wNil)) (wgName 6) wYes (wCallH S_law_sieve 0 (wCons (wVar 1) (wCons (wVar 2) (wCons (wOp (wI (fun _ _ => True) fun i j => .int (i - j)) (wVar 3) (wC (.int 1))) wNil)))) [6]) 5)
  (wSeq (wIfS (wB (wOp wEqD (wCallH S_law_draw 0 (wCons (wC (.int 5)) wNil)) (wC (.int 0)))) (wApp 5 (wCallH S_law_pick 0 (wCons (wLst (wCons (wIxOwn 5 (wC (.int 0))) (wCons (wTup (wCons (wC (.str "not")) (wCons (wIxOwn 5 (wC (.int 0))) wNil))) wNil))) wNil))) wNext)
  (wFrz 5 (wRet (wOp wCatT (wTup (wCons (wVar 4) wNil)) (wCB wTupOf (wCons (wVar 5) wNil))))))) wNext)
  (wRet (wCallH S_law_single 0 (wCons (wVar 1) (wCons (wVar 2) wNil))))))))
theorem snd_law_sieve {K : PySem.W.Frag} {S_law_pick S_law_draw S_law_single S_law_sieve : S8} : SndS (t_law_sieve K S_law_pick S_law_draw S_law_single S_law_sieve) (w_law_sieve S_law_pick S_law_draw S_law_single S_law_sieve) :=
  (s_seq (s_asg (snd_ifE (snd_test (snd_op r_B0 (snd_var 3) (snd_int 0))) (snd_callH (snd_cons (snd_lst (snd_cons (snd_str "has") (snd_cons (snd_str "in") (snd_cons (snd_str "not") (snd_cons (snd_str "and") (snd_cons (snd_str "or") (snd_cons (snd_str "and") (snd_cons (snd_str "or") (snd_cons (snd_str "all") snd_nil))))))))) snd_nil)) (snd_str "in")) (g_name 4))
  (s_seq (s_if (snd_test (snd_op r_eq (snd_var 4) (snd_str "all"))) (s_ret (snd_ifE (snd_test (snd_op r_eq (snd_callH (snd_cons (snd_int 2) snd_nil)) (snd_int 0))) (snd_tup (snd_cons (snd_str "all") snd_nil)) (snd_callH (snd_cons (snd_var 1) (snd_cons (snd_var 2) snd_nil))))) s_next)
  (s_seq (s_if (snd_test (snd_op r_eq (snd_var 4) (snd_str "not"))) (s_ret (snd_tup (snd_cons (snd_str "not") (snd_cons (snd_callH (snd_cons (snd_var 1) (snd_cons (snd_var 2) (snd_cons (snd_op r_I0 (snd_var 3) (snd_int 1)) snd_nil)))) snd_nil)))) s_next)
  (s_seq (s_if (snd_test (snd_op r_in (snd_var 4) (snd_lst (snd_cons (snd_str "and") (snd_cons (snd_str "or") snd_nil))))) (s_seq (s_own (l_lc (i_rng1 (snd_cons (snd_op r_I0 (snd_int 2) (snd_callH (snd_cons (snd_int 2) snd_nil))) snd_nil)) (g_name 6) (in_name (by decide)) snd_yes (snd_callH (snd_cons (snd_var 1) (snd_cons (snd_var 2) (snd_cons (snd_op r_I0 (snd_var 3) (snd_int 1)) snd_nil))))))
  (s_seq (s_if (snd_test (snd_op r_eq (snd_callH (snd_cons (snd_int 5) snd_nil)) (snd_int 0))) (s_app (snd_callH (snd_cons (snd_lst (snd_cons (snd_ixOwn (snd_int 0)) (snd_cons (snd_tup (snd_cons (snd_str "not") (snd_cons (snd_ixOwn (snd_int 0)) snd_nil))) snd_nil))) snd_nil))) s_next)
  (s_frz 5 (s_ret (snd_op r_catT (snd_tup (snd_cons (snd_var 4) snd_nil)) (snd_cb c_tupOf (snd_cons (snd_var 5) snd_nil))))))) s_next)
  (s_ret (snd_callH (snd_cons (snd_var 1) (snd_cons (snd_var 2) snd_nil))))))))
theorem ok_law_sieve {P : Program} {w : World} {K : PySem.W.Frag} {mg : Str → Option Value} {base : Heap} {f : Addr} {fd : FuncData} {k : Nat} {S S_law_pick S_law_draw S_law_single S_law_sieve : S8}
    (F : Fun K "_law_sieve" "_law_sieve" s_law_sieve f fd) (bi : Bi mg)
    (c_law_pick : Cal P w K mg base "_law_pick" ["_law_heap_here", "_law_some"] k (spH S_law_pick))
    (c_law_draw : Cal P w K mg base "_law_draw" ["_law_heap_here", "_law_many"] k (spH S_law_draw))
    (c_law_single : Cal P w K mg base "_law_single" ["_law_heap_here", "_law_names_here", "_law_span"] k (spH S_law_single))
    (c_law_sieve : Cal P w K mg base "_law_sieve" ["_law_heap_here", "_law_names_here", "_law_span", "_law_depth"] k (spH S_law_sieve))
    (hlen : ∀ ds P, S ds P → ds.length + 1 = 4)
    (lw : ∀ ds P, S ds P → w_law_sieve S_law_pick S_law_draw S_law_single S_law_sieve { nx := fun _ => P .none, rt := P } (.heap :: dats ds 3)) : FnOk P w K mg base CX0 (k + 1) f fd ["_law_heap_here", "_law_names_here", "_law_span", "_law_depth"] (spH S) := by
  refine F.ok sc_law_sieve (len_H hlen) (fun cdv A outer s H vs Q E hr h => ⟨t_law_sieve K S_law_pick S_law_draw S_law_single S_law_sieve, ?_, run_H (N := N_law_sieve) snd_law_sieve (fun ds P hS => by have e := hlen ds P hS; rw [show N_law_sieve.length - (ds.length + 1) = 3 by rw [e] <;> rfl]; exact lw ds P hS) h⟩)
  exact (pss_cons (ps_set (i := 4) sc_law_sieve.nd rfl (Or.inl rfl) (pe_ifExp (pt_cmpR op_gt (pv 3) pe_int (nomark _)) (pe_cal c_law_pick hr (by rfl) (pa_cons (pv 0) (pa_cons (pe_lst (pa_cons pe_str (pa_cons pe_str (pa_cons pe_str (pa_cons pe_str (pa_cons pe_str (pa_cons pe_str (pa_cons pe_str (pa_cons pe_str pa_nil))))))))) pa_nil))) pe_str))
    (pss_cons (ps_if (pt_cmpR (op_eqD hr.units) (pv 4) pe_str (nomark _)) (pss_one (ps_ret (pe_ifExp (pt_cmpR (op_eqD hr.units) (pe_cal c_law_draw hr (by rfl) (pa_cons (pv 0) (pa_cons pe_int pa_nil))) pe_int (nomark _)) (pe_tup (pa_cons pe_str pa_nil)) (pe_cal c_law_single hr (by rfl) (pa_cons (pv 0) (pa_cons (pv 1) (pa_cons (pv 2) pa_nil))))))) pss_nil)
    (pss_cons (ps_if (pt_cmpR (op_eqD hr.units) (pv 4) pe_str (nomark _)) (pss_one (ps_ret (pe_tup (pa_cons pe_str (pa_cons (pe_cal c_law_sieve hr (by rfl) (pa_cons (pv 0) (pa_cons (pv 1) (pa_cons (pv 2) (pa_cons (pe_op op_sub (pv 3) pe_int) pa_nil))))) pa_nil))))) pss_nil)
    (pss_cons (ps_if (pt_cmpR (op_inD (room65 hr)) (pv 4) (pe_lst (pa_cons pe_str (pa_cons pe_str pa_nil))) (by rfl)) (pss_cons (ps_setLc (i := 5) (own := [("_law_turn", 6)]) (wi := (iRng1 (tCons (tOp (rI0 fun i j => .int (i + j)) (tC (.int 2)) (tCall (spH S_law_draw) [] E0 (tCons (tVar 0) (tCons (tC (.int 2)) tNil)))) tNil))) (g := (gName 6)) (tt := tYes) (te := (tCall (spH S_law_sieve) [] E0 (tCons (tVar 0) (tCons (tVar 1) (tCons (tVar 2) (tCons (tOp (rI0 fun i j => .int (i - j)) (tVar 3) (tC (.int 1))) tNil)))))) (by rfl) sc_law_sieve.nd rfl rfl (sw_true rfl rfl rfl (by decide +kernel)) (pi_range1 (by rfl) bi.range (pa_cons (pe_op op_add pe_int (pe_cal c_law_draw hr (by rfl) (pa_cons (pv 0) (pa_cons pe_int pa_nil)))) pa_nil)) (blkOk_by (own := [("_law_turn", 6)]) (N := N_law_sieve) (sc := defScope s_law_sieve) (by decide +kernel)) (fun _ _ _ _ _ => (pg_name (i := 6) sc_law_sieve.nd rfl (by first | exact Or.inl rfl | exact Or.inr rfl))) (fun _ _ _ _ _ => pts_nil) (fun _ _ _ _ _ => (pe_cal c_law_sieve hr (by rfl) (pa_cons (pv 0) (pa_cons (pv 1) (pa_cons (pv 2) (pa_cons (pe_op op_sub (pv 3) pe_int) pa_nil)))))))
    (pss_cons (ps_if (pt_cmpR (op_eqD hr.units) (pe_cal c_law_draw hr (by rfl) (pa_cons (pv 0) (pa_cons pe_int pa_nil))) pe_int (nomark _)) (pss_one (ps_expr (pe_bm PySem.F.plainAttrs_list PySem.F.slot_list_append PySem.F.type_list_append mt_append (pv 5) (pa_cons (pe_cal c_law_pick hr (by rfl) (pa_cons (pv 0) (pa_cons (pe_lst (pa_cons (pe_ix ix_8 (pv 5) pe_int (fun _ _ => rfl)) (pa_cons (pe_tup (pa_cons pe_str (pa_cons (pe_ix ix_8 (pv 5) pe_int (fun _ _ => rfl)) pa_nil))) pa_nil))) pa_nil))) pa_nil)))) pss_nil)
    (pss_one (ps_ret (pe_op op_catT (pe_tup (pa_cons (pv 4) pa_nil)) (pe_callTy k_tuple (by rfl) bi.tuple bo_tuple (pa_cons (pv 5) pa_nil))))))) pss_nil)
    (pss_one (ps_ret (pe_cal c_law_single hr (by rfl) (pa_cons (pv 0) (pa_cons (pv 1) (pa_cons (pv 2) pa_nil))))))))))

abbrev s_law_lets : Stmt := topS 25
abbrev N_law_lets : List Str := ["_law_sieve_here", "_law_labels_here", "_law_word", "_law_found", "_law_value", "_law_part", "_law_label"]
theorem sc_law_lets : FnScope N_law_lets ["_law_sieve_here", "_law_labels_here"] (defScope s_law_lets) :=
  ⟨rfl, rfl, rfl, by decide +kernel, rfl, by decide +kernel, by decide +kernel⟩
def t_law_lets (K : PySem.W.Frag) (S_law_lets : S8) : TS :=
  (tSeq (tAsg (tOp (rIx8 K) (tVar 0) (tC (.int 0))) (gName 2))
  (tSeq (tIfS (tTest (tOp (rEqD K) (tVar 2) (tC (.str "all")))) (tRet (tC (.bl true))) tNext)
  (tSeq (tIfS (tTest (tOp (rEqD K) (tVar 2) (tC (.str "not")))) (tRet (tNotV (tCall (spP S_law_lets) [] E0 (tCons (tOp (rIx8 K) (tVar 0) (tC (.int 1))) (tCons (tVar 1) tNil))))) tNext)
  (tSeq (tIfS (tTest (tOp (rEqD K) (tVar 2) (tC (.str "and")))) (tRet (tOp (rNotInD K) (tC (.bl false)) (tLc (iSeq8 K (L2.tSl (rSlB K) (tVar 0) (tPart (tC (.int 1))) tNoPart)) (gName 5) tYes (tCall (spP S_law_lets) [] E0 (tCons (tVar 5) (tCons (tVar 1) tNil))) [5]))) tNext)
  (tSeq (tIfS (tTest (tOp (rEqD K) (tVar 2) (tC (.str "or")))) (tRet (tOp (rInD K) (tC (.bl true)) (tLc (iSeq8 K (L2.tSl (rSlB K) (tVar 0) (tPart (tC (.int 1))) tNoPart)) (gName 5) tYes (tCall (spP S_law_lets) [] E0 (tCons (tVar 5) (tCons (tVar 1) tNil))) [5]))) tNext)
  (tSeq (tAsg (tLc (iSeq8 K (tLc (iSeq8 K (tVar 1)) (gName 6) (tTest (tOp (rEqD K) (tOp (rIx8 K) (tVar 6) (tC (.int 0))) (tOp (rIx8 K) (tVar 0) (tC (.int 1))))) (tOp (rIx8 K) (tVar 6) (tC (.int 1))) [6])) (gName 4) (tOr (tTest (tOp (rEqD K) (tVar 2) (tC (.str "has")))) (tTest (tChain (rI0 fun i j => .bl (decide (i ≤ j))) (rI0 fun i j => .bl (decide (i ≤ j))) (tOp (rIx8 K) (tVar 0) (tC (.int 2))) (tVar 4) (tOp (rIx8 K) (tVar 0) (tC (.int 3)))))) (tVar 4) [4]) (gName 3))
  (tRet (tOp (rNeD K) (tVar 3) (tLst tNil)))))))))
def w_law_lets (S_law_lets : S8) : WS :=
  (wSeq (wAsg (wOp wIx (wVar 0) (wC (.int 0))) (wgName 2))
  (wSeq (wIfS (wB (wOp wEqD (wVar 2) (wC (.str "all")))) (wRet (wC (.bool true))) wNext)
  (wSeq (wIfS (wB (wOp wEqD (wVar 2) (wC (.str "not")))) (wRet (wNotV (wCall S_law_lets (wCons (wOp wIx (wVar 0) (wC (.int 1))) (wCons (wVar 1) wNil))))) wNext)
  (wSeq (wIfS (wB (wOp wEqD (wVar 2) (wC (.str "and")))) (wRet (wOp wNotInD (wC (.bool false)) (wL (wLc (wSeq8 (wSl (wVar 0) (wPart (wC (.int 1))) wNoPart)) (wgName 5) wYes (wCall S_law_lets (wCons (wVar 5) (wCons (wVar 1) wNil))) [5])))) wNext)
  (wSeq (wIfS (wB (wOp wEqD (wVar 2) (wC (.str "or")))) (wRet (wOp wInD (wC (.bool true)) (wL (wLc (wSeq8 (wSl (wVar 0) (wPart (wC (.int 1))) wNoPart)) (wgName 5) wYes (wCall S_law_lets (wCons (wVar 5) (wCons (wVar 1) wNil))) [5])))) wNext)
  (wSeq (wAsg (wL (wLc (wSeq8 (wL (wLc (wSeq8 (wVar 1)) (wgName 6) (wB (wOp wEqD (wOp wIx (wVar 6) (wC (.int 0))) (wOp wIx (wVar 0) (wC (.int 1))))) (wOp wIx (wVar 6) (wC (.int 1))) [6]))) (wgName 4) (wOr (wB (wOp wEqD (wVar 2) (wC (.str "has")))) (wB (wChain (wI (fun _ _ => True) fun i j => .bool (decide (i ≤ j))) (wI (fun _ _ => True) fun i j => .bool (decide (i ≤ j))) (wOp wIx (wVar 0) (wC (.int 2))) (wVar 4) (wOp wIx (wVar 0) (wC (.int 3)))))) (wVar 4) [4])) (wgName 3))
  (wRet (wOp wNeD (wVar 3) (wLst wNil)))))))))
theorem snd_law_lets {K : PySem.W.Frag} {S_law_lets : S8} : SndS (t_law_lets K S_law_lets) (w_law_lets S_law_lets) :=
  (s_seq (s_asg (snd_op r_ix (snd_var 0) (snd_int 0)) (g_name 2))
  (s_seq (s_if (snd_test (snd_op r_eq (snd_var 2) (snd_str "all"))) (s_ret (snd_bl true)) s_next)
  (s_seq (s_if (snd_test (snd_op r_eq (snd_var 2) (snd_str "not"))) (s_ret (snd_notV (snd_call (snd_cons (snd_op r_ix (snd_var 0) (snd_int 1)) (snd_cons (snd_var 1) snd_nil))))) s_next)
  (s_seq (s_if (snd_test (snd_op r_eq (snd_var 2) (snd_str "and"))) (s_ret (snd_op r_notIn (snd_bl false) (snd_L (l_lc (i_seq (snd_sl (snd_var 0) (snd_part (snd_int 1)) snd_noPart)) (g_name 5) (in_name (by decide)) snd_yes (snd_call (snd_cons (snd_var 5) (snd_cons (snd_var 1) snd_nil))))))) s_next)
  (s_seq (s_if (snd_test (snd_op r_eq (snd_var 2) (snd_str "or"))) (s_ret (snd_op r_in (snd_bl true) (snd_L (l_lc (i_seq (snd_sl (snd_var 0) (snd_part (snd_int 1)) snd_noPart)) (g_name 5) (in_name (by decide)) snd_yes (snd_call (snd_cons (snd_var 5) (snd_cons (snd_var 1) snd_nil))))))) s_next)
  (s_seq (s_asg (snd_L (l_lc (i_seq (snd_L (l_lc (i_seq (snd_var 1)) (g_name 6) (in_name (by decide)) (snd_test (snd_op r_eq (snd_op r_ix (snd_var 6) (snd_int 0)) (snd_op r_ix (snd_var 0) (snd_int 1)))) (snd_op r_ix (snd_var 6) (snd_int 1))))) (g_name 4) (in_name (by decide)) (snd_or (snd_test (snd_op r_eq (snd_var 2) (snd_str "has"))) (snd_test (snd_chain r_B0 r_B0 (snd_op r_ix (snd_var 0) (snd_int 2)) (snd_var 4) (snd_op r_ix (snd_var 0) (snd_int 3))))) (snd_var 4))) (g_name 3))
  (s_ret (snd_op r_ne (snd_var 3) (snd_lst snd_nil)))))))))
theorem ok_law_lets {P : Program} {w : World} {K : PySem.W.Frag} {mg : Str → Option Value} {base : Heap} {f : Addr} {fd : FuncData} {k : Nat} {S S_law_lets : S8}
    (F : Fun K "_law_lets" "_law_lets" s_law_lets f fd) (bi : Bi mg)
    (c_law_lets : Cal P w K mg base "_law_lets" ["_law_sieve_here", "_law_labels_here"] k (spP S_law_lets))
    (hlen : ∀ ds P, S ds P → ds.length = 2)
    (lw : ∀ ds P, S ds P → w_law_lets S_law_lets { nx := fun _ => P .none, rt := P } (dats ds 5)) : FnOk P w K mg base CX0 (k + 1) f fd ["_law_sieve_here", "_law_labels_here"] (spP S) := by
  refine F.ok sc_law_lets (len_P hlen) (fun cdv A outer s H vs Q E hr h => ⟨t_law_lets K S_law_lets, ?_, run_P (N := N_law_lets) snd_law_lets (fun ds P hS => by have e := hlen ds P hS; rw [show N_law_lets.length - (ds.length) = 5 by rw [e] <;> rfl]; exact lw ds P hS) h⟩)
  exact (pss_cons (ps_set (i := 2) sc_law_lets.nd rfl (Or.inr rfl) (pe_ix ix_8 (pv 0) pe_int (fun _ _ => rfl)))
    (pss_cons (ps_if (pt_cmpR (op_eqD hr.units) (pv 2) pe_str (nomark _)) (pss_one (ps_ret pe_bl)) pss_nil)
    (pss_cons (ps_if (pt_cmpR (op_eqD hr.units) (pv 2) pe_str (nomark _)) (pss_one (ps_ret (pe_not (pe_cal c_law_lets hr (by rfl) (pa_cons (pe_ix ix_8 (pv 0) pe_int (fun _ _ => rfl)) (pa_cons (pv 1) pa_nil)))))) pss_nil)
    (pss_cons (ps_if (pt_cmpR (op_eqD hr.units) (pv 2) pe_str (nomark _)) (pss_one (ps_ret (pe_cmpR (op_notInD (room65 hr)) pe_bl (pe_lc (own := [("_law_part", 5)]) (wi := (iSeq8 K (L2.tSl (rSlB K) (tVar 0) (tPart (tC (.int 1))) tNoPart))) (g := (gName 5)) (tt := tYes) (te := (tCall (spP S_law_lets) [] E0 (tCons (tVar 5) (tCons (tVar 1) tNil)))) (by rfl) sc_law_lets.nd (pi_seq8 (pe_slice sl_both (pv 0) (po_some pe_int) po_none)) (blkOk_by (own := [("_law_part", 5)]) (N := N_law_lets) (sc := defScope s_law_lets) (by decide +kernel)) (fun _ _ _ _ _ => (pg_name (i := 5) sc_law_lets.nd rfl (by first | exact Or.inl rfl | exact Or.inr rfl))) (fun _ _ _ _ _ => pts_nil) (fun _ _ _ _ _ => (pe_cal c_law_lets hr (by rfl) (pa_cons (pv 5) (pa_cons (pv 1) pa_nil))))) (by rfl)))) pss_nil)
    (pss_cons (ps_if (pt_cmpR (op_eqD hr.units) (pv 2) pe_str (nomark _)) (pss_one (ps_ret (pe_cmpR (op_inD (room65 hr)) pe_bl (pe_lc (own := [("_law_part", 5)]) (wi := (iSeq8 K (L2.tSl (rSlB K) (tVar 0) (tPart (tC (.int 1))) tNoPart))) (g := (gName 5)) (tt := tYes) (te := (tCall (spP S_law_lets) [] E0 (tCons (tVar 5) (tCons (tVar 1) tNil)))) (by rfl) sc_law_lets.nd (pi_seq8 (pe_slice sl_both (pv 0) (po_some pe_int) po_none)) (blkOk_by (own := [("_law_part", 5)]) (N := N_law_lets) (sc := defScope s_law_lets) (by decide +kernel)) (fun _ _ _ _ _ => (pg_name (i := 5) sc_law_lets.nd rfl (by first | exact Or.inl rfl | exact Or.inr rfl))) (fun _ _ _ _ _ => pts_nil) (fun _ _ _ _ _ => (pe_cal c_law_lets hr (by rfl) (pa_cons (pv 5) (pa_cons (pv 1) pa_nil))))) (by rfl)))) pss_nil)
    (pss_cons (ps_setLc (i := 3) (own := [("_law_value", 4)]) (wi := (iSeq8 K (tLc (iSeq8 K (tVar 1)) (gName 6) (tTest (tOp (rEqD K) (tOp (rIx8 K) (tVar 6) (tC (.int 0))) (tOp (rIx8 K) (tVar 0) (tC (.int 1))))) (tOp (rIx8 K) (tVar 6) (tC (.int 1))) [6]))) (g := (gName 4)) (tt := (tOr (tTest (tOp (rEqD K) (tVar 2) (tC (.str "has")))) (tTest (tChain (rI0 fun i j => .bl (decide (i ≤ j))) (rI0 fun i j => .bl (decide (i ≤ j))) (tOp (rIx8 K) (tVar 0) (tC (.int 2))) (tVar 4) (tOp (rIx8 K) (tVar 0) (tC (.int 3))))))) (te := (tVar 4)) (by rfl) sc_law_lets.nd rfl rfl (sw_true rfl rfl rfl (by decide +kernel)) (pi_seq8 (pe_lc (own := [("_law_label", 6)]) (wi := (iSeq8 K (tVar 1))) (g := (gName 6)) (tt := (tTest (tOp (rEqD K) (tOp (rIx8 K) (tVar 6) (tC (.int 0))) (tOp (rIx8 K) (tVar 0) (tC (.int 1)))))) (te := (tOp (rIx8 K) (tVar 6) (tC (.int 1)))) (by rfl) sc_law_lets.nd (pi_seq8 (pv 1)) (blkOk_by (own := [("_law_label", 6)]) (N := N_law_lets) (sc := defScope s_law_lets) (by decide +kernel)) (fun _ _ _ _ _ => (pg_name (i := 6) sc_law_lets.nd rfl (by first | exact Or.inl rfl | exact Or.inr rfl))) (fun _ _ _ _ _ => (pts_one (pt_cmpR (op_eqD hr.units) (pe_ix ix_8 (pv 6) pe_int (fun _ _ => rfl)) (pe_ix ix_8 (pv 0) pe_int (fun _ _ => rfl)) (nomark _)))) (fun _ _ _ _ _ => (pe_ix ix_8 (pv 6) pe_int (fun _ _ => rfl))))) (blkOk_by (own := [("_law_value", 4)]) (N := N_law_lets) (sc := defScope s_law_lets) (by decide +kernel)) (fun _ _ _ _ _ => (pg_name (i := 4) sc_law_lets.nd rfl (by first | exact Or.inl rfl | exact Or.inr rfl))) (fun _ _ _ _ _ => (pts_one ((pw_or (pt_cmpR (op_eqD hr.units) (pv 2) pe_str (nomark _)) (pw_or1 (pt_chain op_le op_le (pe_ix ix_8 (pv 0) pe_int (fun _ _ => rfl)) (pv 4) (pe_ix ix_8 (pv 0) pe_int (fun _ _ => rfl)))))).pt)) (fun _ _ _ _ _ => (pv 4)))
    (pss_one (ps_ret (pe_cmpR (op_neD hr.units) (pv 3) (pe_lst pa_nil) (nomark _))))))))))

abbrev s_law_labels : Stmt := topS 26
abbrev N_law_labels : List Str := ["_law_heap_here", "_law_names_here", "_law_span", "_law_name"]
theorem sc_law_labels : FnScope N_law_labels ["_law_heap_here", "_law_names_here", "_law_span"] (defScope s_law_labels) :=
  ⟨rfl, rfl, rfl, by decide +kernel, rfl, by decide +kernel, by decide +kernel⟩
def t_law_labels (K : PySem.W.Frag) (S_law_draw : S8) : TS :=
  (tRet (tCB (rTupOf K) (tCons (tLc (iSeq8 K (tVar 1)) (gName 3) (tTest (tOp (rI0 fun i j => .bl (decide (j < i))) (tCall (spH S_law_draw) [] E0 (tCons (tVar 0) (tCons (tC (.int 3)) tNil))) (tC (.int 0)))) (tTup (tCons (tVar 3) (tCons (tOp (rI0 fun i j => .int (i - j)) (tCall (spH S_law_draw) [] E0 (tCons (tVar 0) (tCons (tVar 2) tNil))) (tC (.int 2))) tNil))) [3]) tNil)))
def w_law_labels (S_law_draw : S8) : WS :=
  (wRet (wCB wTupOf (wCons (wL (wLc (wSeq8 (wVar 1)) (wgName 3) (wB (wOp (wI (fun _ _ => True) fun i j => .bool (decide (j < i))) (wCallH S_law_draw 0 (wCons (wC (.int 3)) wNil)) (wC (.int 0)))) (wTup (wCons (wVar 3) (wCons (wOp (wI (fun _ _ => True) fun i j => .int (i - j)) (wCallH S_law_draw 0 (wCons (wVar 2) wNil)) (wC (.int 2))) wNil))) [3])) wNil)))
theorem snd_law_labels {K : PySem.W.Frag} {S_law_draw : S8} : SndS (t_law_labels K S_law_draw) (w_law_labels S_law_draw) :=
  (s_ret (snd_cb c_tupOf (snd_cons (snd_L (l_lc (i_seq (snd_var 1)) (g_name 3) (in_name (by decide)) (snd_test (snd_op r_B0 (snd_callH (snd_cons (snd_int 3) snd_nil)) (snd_int 0))) (snd_tup (snd_cons (snd_var 3) (snd_cons (snd_op r_I0 (snd_callH (snd_cons (snd_var 2) snd_nil)) (snd_int 2)) snd_nil))))) snd_nil)))
theorem ok_law_labels {P : Program} {w : World} {K : PySem.W.Frag} {mg : Str → Option Value} {base : Heap} {f : Addr} {fd : FuncData} {k : Nat} {S S_law_draw : S8}
    (F : Fun K "_law_labels" "_law_labels" s_law_labels f fd) (bi : Bi mg)
    (c_law_draw : Cal P w K mg base "_law_draw" ["_law_heap_here", "_law_many"] k (spH S_law_draw))
    (hlen : ∀ ds P, S ds P → ds.length + 1 = 3)
    (lw : ∀ ds P, S ds P → w_law_labels S_law_draw { nx := fun _ => P .none, rt := P } (.heap :: dats ds 1)) : FnOk P w K mg base CX0 (k + 1) f fd ["_law_heap_here", "_law_names_here", "_law_span"] (spH S) := by
  refine F.ok sc_law_labels (len_H hlen) (fun cdv A outer s H vs Q E hr h => ⟨t_law_labels K S_law_draw, ?_, run_H (N := N_law_labels) snd_law_labels (fun ds P hS => by have e := hlen ds P hS; rw [show N_law_labels.length - (ds.length + 1) = 1 by rw [e] <;> rfl]; exact lw ds P hS) h⟩)
  exact (pss_one (ps_ret (pe_callTy k_tuple (by rfl) bi.tuple bo_tuple (pa_cons (pe_lc (own := [("_law_name", 3)]) (wi := (iSeq8 K (tVar 1))) (g := (gName 3)) (tt := (tTest (tOp (rI0 fun i j => .bl (decide (j < i))) (tCall (spH S_law_draw) [] E0 (tCons (tVar 0) (tCons (tC (.int 3)) tNil))) (tC (.int 0))))) (te := (tTup (tCons (tVar 3) (tCons (tOp (rI0 fun i j => .int (i - j)) (tCall (spH S_law_draw) [] E0 (tCons (tVar 0) (tCons (tVar 2) tNil))) (tC (.int 2))) tNil)))) (by rfl) sc_law_labels.nd (pi_seq8 (pv 1)) (blkOk_by (own := [("_law_name", 3)]) (N := N_law_labels) (sc := defScope s_law_labels) (by decide +kernel)) (fun _ _ _ _ _ => (pg_name (i := 3) sc_law_labels.nd rfl (by first | exact Or.inl rfl | exact Or.inr rfl))) (fun _ _ _ _ _ => (pts_one (pt_cmpR op_gt (pe_cal c_law_draw hr (by rfl) (pa_cons (pv 0) (pa_cons pe_int pa_nil))) pe_int (nomark _)))) (fun _ _ _ _ _ => (pe_tup (pa_cons (pv 3) (pa_cons (pe_op op_sub (pe_cal c_law_draw hr (by rfl) (pa_cons (pv 0) (pa_cons (pv 2) pa_nil))) pe_int) pa_nil))))) pa_nil))))

abbrev s_law_lists : Stmt := topS 27
abbrev N_law_lists : List Str := ["_law_values", "_law_many", "_law_found", "_law_turn", "_law_wider", "_law_part", "_law_value"]
theorem sc_law_lists : FnScope N_law_lists ["_law_values", "_law_many"] (defScope s_law_lists) :=
  ⟨rfl, rfl, rfl, by decide +kernel, rfl, by decide +kernel, by decide +kernel⟩
def t_law_lists (K : PySem.W.Frag) : TS :=
  (tSeq (tAsg (tLst (tCons (tLst tNil) tNil)) (gName 2))
  (tSeq (tFor (iRng1 (tCons (tVar 1) tNil)) (gName 3) (tSeq (tAsg (tLst tNil) (gName 4))
  (tSeq (tFor (iSeq8 K (tVar 2)) (gName 5) (tAsg (tOp rCat (tVar 4) (tLc (iSeq8 K (tVar 0)) (gName 6) tYes (tOp rCat (tVar 5) (tLst (tCons (tVar 6) tNil))) [6])) (gName 4)))
  (tAsg (tVar 4) (gName 2)))))
  (tRet (tVar 2))))
def w_law_lists : WS :=
  (wSeq (wAsg (wLst (wCons (wLst wNil) wNil)) (wgName 2))
  (wSeq (wFor (wRng1 (wCons (wVar 1) wNil)) (wgName 3) (wSeq (wAsg (wLst wNil) (wgName 4))
  (wSeq (wFor (wSeq8 (wVar 2)) (wgName 5) (wAsg (wOp wCat (wVar 4) (wL (wLc (wSeq8 (wVar 0)) (wgName 6) wYes (wOp wCat (wVar 5) (wLst (wCons (wVar 6) wNil))) [6]))) (wgName 4)))
  (wAsg (wVar 4) (wgName 2)))))
  (wRet (wVar 2))))
theorem snd_law_lists {K : PySem.W.Frag} : SndS (t_law_lists K) (w_law_lists) :=
  (s_seq (s_asg (snd_lst (snd_cons (snd_lst snd_nil) snd_nil)) (g_name 2))
  (s_seq (s_for (i_rng1 (snd_cons (snd_var 1) snd_nil)) (g_name 3) (s_seq (s_asg (snd_lst snd_nil) (g_name 4))
  (s_seq (s_for (i_seq (snd_var 2)) (g_name 5) (s_asg (snd_op r_cat (snd_var 4) (snd_L (l_lc (i_seq (snd_var 0)) (g_name 6) (in_name (by decide)) snd_yes (snd_op r_cat (snd_var 5) (snd_lst (snd_cons (snd_var 6) snd_nil)))))) (g_name 4)))
  (s_asg (snd_var 4) (g_name 2)))))
  (s_ret (snd_var 2))))
theorem ok_law_lists {P : Program} {w : World} {K : PySem.W.Frag} {mg : Str → Option Value} {base : Heap} {f : Addr} {fd : FuncData} {k : Nat} {S : S8}
    (F : Fun K "_law_lists" "_law_lists" s_law_lists f fd) (bi : Bi mg)
    (hlen : ∀ ds P, S ds P → ds.length = 2)
    (lw : ∀ ds P, S ds P → w_law_lists { nx := fun _ => P .none, rt := P } (dats ds 5)) : FnOk P w K mg base CX0 (k + 1) f fd ["_law_values", "_law_many"] (spP S) := by
  refine F.ok sc_law_lists (len_P hlen) (fun cdv A outer s H vs Q E hr h => ⟨t_law_lists K, ?_, run_P (N := N_law_lists) snd_law_lists (fun ds P hS => by have e := hlen ds P hS; rw [show N_law_lists.length - (ds.length) = 5 by rw [e] <;> rfl]; exact lw ds P hS) h⟩)
  exact (pss_cons (ps_set (i := 2) sc_law_lists.nd rfl (Or.inl rfl) (pe_lst (pa_cons (pe_lst pa_nil) pa_nil)))
    (pss_cons (ps_for PassesOwn.never (by rfl) (pi_range1 (by rfl) bi.range (pa_cons (pv 1) pa_nil)) (pg_name (i := 3) sc_law_lists.nd rfl (by first | exact Or.inl rfl | exact Or.inr rfl)) (pss_cons (ps_set (i := 4) sc_law_lists.nd rfl (Or.inl rfl) (pe_lst pa_nil))
    (pss_cons (ps_for PassesOwn.never (by rfl) (pi_seq8 (pv 2)) (pg_name (i := 5) sc_law_lists.nd rfl (by first | exact Or.inl rfl | exact Or.inr rfl)) (pss_one (ps_set (i := 4) sc_law_lists.nd rfl (Or.inl rfl) (pe_op op_cat (pv 4) (pe_lc (own := [("_law_value", 6)]) (wi := (iSeq8 K (tVar 0))) (g := (gName 6)) (tt := tYes) (te := (tOp rCat (tVar 5) (tLst (tCons (tVar 6) tNil)))) (by rfl) sc_law_lists.nd (pi_seq8 (pv 0)) (blkOk_by (own := [("_law_value", 6)]) (N := N_law_lists) (sc := defScope s_law_lists) (by decide +kernel)) (fun _ _ _ _ _ => (pg_name (i := 6) sc_law_lists.nd rfl (by first | exact Or.inl rfl | exact Or.inr rfl))) (fun _ _ _ _ _ => pts_nil) (fun _ _ _ _ _ => (pe_op op_cat (pv 5) (pe_lst (pa_cons (pv 6) pa_nil)))))))))
    (pss_one (ps_set (i := 2) sc_law_lists.nd rfl (Or.inl rfl) (pv 4))))))
    (pss_one (ps_ret (pv 2)))))

abbrev s_law_columns : Stmt := topS 28
abbrev N_law_columns : List Str := ["_law_told", "_law_name", "_law_rows", "_law_many", "_law_least", "_law_greatest", "_law_values", "_law_found", "_law_some", "_law_there", "_law_row", "_law_item"]
theorem sc_law_columns : FnScope N_law_columns ["_law_told", "_law_name"] (defScope s_law_columns) :=
  ⟨rfl, rfl, rfl, by decide +kernel, rfl, by decide +kernel, by decide +kernel⟩
def t_law_columns (K : PySem.W.Frag) (S_law_lists : S8) : TS :=
  (tSeq (tAsg (tLc (iSeq8 K (tOp (rIx8 K) (tVar 0) (tC (.int 1)))) (gName 10) (tTest (tOp (rEqD K) (tOp (rIx8 K) (tVar 10) (tC (.int 0))) (tVar 1))) (tVar 10) [10]) (gName 2))
  (tSeq (tIfS (tTest (tOp (rEqD K) (tVar 2) (tLst tNil))) (tRet (tLst (tCons (tOp rRep (tLst (tCons (tC .non) tNil)) (tOp (rIx8 K) (tVar 0) (tC (.int 0)))) tNil))) tNext)
  (tSeq (tAsg (L2.tSl (rSlB K) (tOp (rIx8 K) (tVar 2) (tC (.int 0))) (tPart (tC (.int 1))) tNoPart) (gTup K 3 (gCons (gName 3) (gCons (gName 4) (gCons (gName 5) gNil)))))
  (tSeq (tAsg (tLstRg (tRg2 (tVar 4) (tOp (rI0 fun i j => .int (i + j)) (tVar 5) (tC (.int 1))))) (gName 6))
  (tSeq (tAsg (tLst tNil) (gName 7))
  (tSeq (tFor (iSeq8 K (tCall (spP S_law_lists) [] E0 (tCons (tOp rCat (tLst (tCons (tC .non) tNil)) (tVar 6)) (tCons (tOp (rIx8 K) (tVar 0) (tC (.int 0))) tNil)))) (gName 8) (tSeq (tAsg (tLc (iSeq8 K (tVar 8)) (gName 11) (L2.tB (tNotN (tVar 11))) (tVar 11) [11]) (gName 9))
  (tIfS (tAnd (tTest (tOp (rEqD K) (tCB (rLen8 K) (tCons (tVar 9) tNil)) (tVar 3))) (tAnd (tTest (tOp (rEqD K) (tCB (rMin K) (tCons (tVar 9) tNil)) (tVar 4))) (tTest (tOp (rEqD K) (tCB (rMax K) (tCons (tVar 9) tNil)) (tVar 5))))) (tDrop (tBM K "list" rAppend (tVar 7) (tCons (tVar 8) tNil))) tNext)))
  (tRet (tVar 7))))))))
def w_law_columns (S_law_lists : S8) : WS :=
  (wSeq (wAsg (wL (wLc (wSeq8 (wOp wIx (wVar 0) (wC (.int 1)))) (wgName 10) (wB (wOp wEqD (wOp wIx (wVar 10) (wC (.int 0))) (wVar 1))) (wVar 10) [10])) (wgName 2))
  (wSeq (wIfS (wB (wOp wEqD (wVar 2) (wLst wNil))) (wRet (wLst (wCons (wOp wRep (wLst (wCons (wC .none) wNil)) (wOp wIx (wVar 0) (wC (.int 0)))) wNil))) wNext)
  (wSeq (wAsg (wSl (wOp wIx (wVar 2) (wC (.int 0))) (wPart (wC (.int 1))) wNoPart) (wgTup 3 (wgCons (wgName 3) (wgCons (wgName 4) (wgCons (wgName 5) wgNil)))))
  (wSeq (wAsg (wLstRg (wVar 4) (wOp (wI (fun _ _ => True) fun i j => .int (i + j)) (wVar 5) (wC (.int 1)))) (wgName 6))
  (wSeq (wOwn wNil 7)
  (wSeq (wFor (wSeq8 (wCall S_law_lists (wCons (wOp wCat (wLst (wCons (wC .none) wNil)) (wVar 6)) (wCons (wOp wIx (wVar 0) (wC (.int 0))) wNil)))) (wgName 8) (wSeq (wAsg (wL (wLc (wSeq8 (wVar 8)) (wgName 11) (wB (wNotN (wVar 11))) (wVar 11) [11])) (wgName 9))
  (wIfS (wAnd (wB (wOp wEqD (wCB wLen (wCons (wVar 9) wNil)) (wVar 3))) (wAnd (wB (wOp wEqD (wCB wMinL (wCons (wVar 9) wNil)) (wVar 4))) (wB (wOp wEqD (wCB wMaxL (wCons (wVar 9) wNil)) (wVar 5))))) (wApp 7 (wVar 8)) wNext)))
  (wFrz 7 (wRet (wVar 7)))))))))
theorem snd_law_columns {K : PySem.W.Frag} {S_law_lists : S8} : SndS (t_law_columns K S_law_lists) (w_law_columns S_law_lists) :=
  (s_seq (s_asg (snd_L (l_lc (i_seq (snd_op r_ix (snd_var 0) (snd_int 1))) (g_name 10) (in_name (by decide)) (snd_test (snd_op r_eq (snd_op r_ix (snd_var 10) (snd_int 0)) (snd_var 1))) (snd_var 10))) (g_name 2))
  (s_seq (s_if (snd_test (snd_op r_eq (snd_var 2) (snd_lst snd_nil))) (s_ret (snd_lst (snd_cons (snd_op r_rep (snd_lst (snd_cons snd_non snd_nil)) (snd_op r_ix (snd_var 0) (snd_int 0))) snd_nil))) s_next)
  (s_seq (s_asg (snd_sl (snd_op r_ix (snd_var 2) (snd_int 0)) (snd_part (snd_int 1)) snd_noPart) (g_tup (g_cons (g_name 3) (g_cons (g_name 4) (g_cons (g_name 5) g_nil)))))
  (s_seq (s_asg (snd_lstRg (snd_var 4) (snd_op r_I0 (snd_var 5) (snd_int 1))) (g_name 6))
  (s_seq (s_own l_nil)
  (s_seq (s_for (i_seq (snd_call (snd_cons (snd_op r_cat (snd_lst (snd_cons snd_non snd_nil)) (snd_var 6)) (snd_cons (snd_op r_ix (snd_var 0) (snd_int 0)) snd_nil)))) (g_name 8) (s_seq (s_asg (snd_L (l_lc (i_seq (snd_var 8)) (g_name 11) (in_name (by decide)) (snd_B (snd_notN (snd_var 11))) (snd_var 11))) (g_name 9))
  (s_if (snd_and (snd_test (snd_op r_eq (snd_cb c_len (snd_cons (snd_var 9) snd_nil)) (snd_var 3))) (snd_and (snd_test (snd_op r_eq (snd_cb c_minL (snd_cons (snd_var 9) snd_nil)) (snd_var 4))) (snd_test (snd_op r_eq (snd_cb c_maxL (snd_cons (snd_var 9) snd_nil)) (snd_var 5))))) (s_app (snd_var 8)) s_next)))
  (s_frz 7 (s_ret (snd_var 7)))))))))
theorem ok_law_columns {P : Program} {w : World} {K : PySem.W.Frag} {mg : Str → Option Value} {base : Heap} {f : Addr} {fd : FuncData} {k : Nat} {S S_law_lists : S8}
    (F : Fun K "_law_columns" "_law_columns" s_law_columns f fd) (bi : Bi mg)
    (c_law_lists : Cal P w K mg base "_law_lists" ["_law_values", "_law_many"] k (spP S_law_lists))
    (hlen : ∀ ds P, S ds P → ds.length = 2)
    (lw : ∀ ds P, S ds P → w_law_columns S_law_lists { nx := fun _ => P .none, rt := P } (dats ds 10)) : FnOk P w K mg base CX0 (k + 1) f fd ["_law_told", "_law_name"] (spP S) := by
  refine F.ok sc_law_columns (len_P hlen) (fun cdv A outer s H vs Q E hr h => ⟨t_law_columns K S_law_lists, ?_, run_P (N := N_law_columns) snd_law_columns (fun ds P hS => by have e := hlen ds P hS; rw [show N_law_columns.length - (ds.length) = 10 by rw [e] <;> rfl]; exact lw ds P hS) h⟩)
  exact (pss_cons (ps_setLc (i := 2) (own := [("_law_row", 10)]) (wi := (iSeq8 K (tOp (rIx8 K) (tVar 0) (tC (.int 1))))) (g := (gName 10)) (tt := (tTest (tOp (rEqD K) (tOp (rIx8 K) (tVar 10) (tC (.int 0))) (tVar 1)))) (te := (tVar 10)) (by rfl) sc_law_columns.nd rfl rfl (sw_true rfl rfl rfl (by decide +kernel)) (pi_seq8 (pe_ix ix_8 (pv 0) pe_int (fun _ _ => rfl))) (blkOk_by (own := [("_law_row", 10)]) (N := N_law_columns) (sc := defScope s_law_columns) (by decide +kernel)) (fun _ _ _ _ _ => (pg_name (i := 10) sc_law_columns.nd rfl (by first | exact Or.inl rfl | exact Or.inr rfl))) (fun _ _ _ _ _ => (pts_one (pt_cmpR (op_eqD hr.units) (pe_ix ix_8 (pv 10) pe_int (fun _ _ => rfl)) (pv 1) (nomark _)))) (fun _ _ _ _ _ => (pv 10)))
    (pss_cons (ps_if (pt_cmpR (op_eqD hr.units) (pv 2) (pe_lst pa_nil) (nomark _)) (pss_one (ps_ret (pe_lst (pa_cons (pe_op op_rep (pe_lst (pa_cons pe_non pa_nil)) (pe_ix ix_8 (pv 0) pe_int (fun _ _ => rfl))) pa_nil)))) pss_nil)
    (pss_cons (ps_asg (pe_slice sl_both (pe_ix ix_8 (pv 2) pe_int (fun _ _ => rfl)) (po_some pe_int) po_none) (pg_tup (by rfl) (pgs_cons (pg_name (i := 3) sc_law_columns.nd rfl (by first | exact Or.inl rfl | exact Or.inr rfl)) (pgs_cons (pg_name (i := 4) sc_law_columns.nd rfl (by first | exact Or.inl rfl | exact Or.inr rfl)) (pgs_cons (pg_name (i := 5) sc_law_columns.nd rfl (by first | exact Or.inl rfl | exact Or.inr rfl)) pgs_nil)))))
    (pss_cons (ps_set (i := 6) sc_law_columns.nd rfl (Or.inl rfl) (pe_listRg (by rfl) (by rfl) bi.list (prg_2 (by rfl) bi.range (pv 4) (pe_op op_add (pv 5) pe_int))))
    (pss_cons (ps_set (i := 7) sc_law_columns.nd rfl (Or.inl rfl) (pe_lst pa_nil))
    (pss_cons (ps_for PassesOwn.never (by rfl) (pi_seq8 (pe_cal c_law_lists hr (by rfl) (pa_cons (pe_op op_cat (pe_lst (pa_cons pe_non pa_nil)) (pv 6)) (pa_cons (pe_ix ix_8 (pv 0) pe_int (fun _ _ => rfl)) pa_nil)))) (pg_name (i := 8) sc_law_columns.nd rfl (by first | exact Or.inl rfl | exact Or.inr rfl)) (pss_cons (ps_setLc (i := 9) (own := [("_law_item", 11)]) (wi := (iSeq8 K (tVar 8))) (g := (gName 11)) (tt := (L2.tB (tNotN (tVar 11)))) (te := (tVar 11)) (by rfl) sc_law_columns.nd rfl rfl (sw_true rfl rfl rfl (by decide +kernel)) (pi_seq8 (pv 8)) (blkOk_by (own := [("_law_item", 11)]) (N := N_law_columns) (sc := defScope s_law_columns) (by decide +kernel)) (fun _ _ _ _ _ => (pg_name (i := 11) sc_law_columns.nd rfl (by first | exact Or.inl rfl | exact Or.inr rfl))) (fun _ _ _ _ _ => (pts_one (pt_cmp (pc_notN (pv 11))))) (fun _ _ _ _ _ => (pv 11)))
    (pss_one (ps_if ((pw_and (pt_cmpR (op_eqD hr.units) (pe_callB k_len (by rfl) bi.len bo_len (pa_cons (pv 9) pa_nil)) (pv 3) (nomark _)) (pw_and (pt_cmpR (op_eqD hr.units) (pe_callB (cr_min (by rfl)) (by rfl) bi.min bo_min (pa_cons (pv 9) pa_nil)) (pv 4) (nomark _)) (pw_and1 (pt_cmpR (op_eqD hr.units) (pe_callB (cr_max (by rfl)) (by rfl) bi.max bo_max (pa_cons (pv 9) pa_nil)) (pv 5) (nomark _)))))).pt (pss_one (ps_expr (pe_bm PySem.F.plainAttrs_list PySem.F.slot_list_append PySem.F.type_list_append mt_append (pv 7) (pa_cons (pv 8) pa_nil)))) pss_nil))))
    (pss_one (ps_ret (pv 7)))))))))

end D8
namespace D8
open PySem PySem.Spec PyProof.Rows L2
abbrev s_law_due : Stmt := topS 30
abbrev N_law_due : List Str := ["_law_sieve_here", "_law_told", "_law_words", "_law_first", "_law_last", "_law_part"]
theorem sc_law_due : FnScope N_law_due ["_law_sieve_here", "_law_told"] (defScope s_law_due) :=
  ⟨rfl, rfl, rfl, by decide +kernel, rfl, by decide +kernel, by decide +kernel⟩
def t_law_due (K : PySem.W.Frag) (S_law_single_due S_law_due : S8) : TS :=
  (tSeq (tIfS (tTest (tOp (rEqD K) (tOp (rIx8 K) (tVar 1) (tC (.int 0))) (tC (.int 0)))) (tRet (tC (.str "none"))) tNext)
  (tSeq (tIfS (tTest (tOp (rEqD K) (tOp (rIx8 K) (tVar 0) (tC (.int 0))) (tC (.str "all")))) (tRet (tC (.str "all"))) tNext)
  (tSeq (tIfS (tTest (tOp (rInD K) (tOp (rIx8 K) (tVar 0) (tC (.int 0))) (tLst (tCons (tC (.str "has")) (tCons (tC (.str "in")) tNil))))) (tRet (tCall (spP S_law_single_due) [] E0 (tCons (tVar 0) (tCons (tVar 1) tNil)))) tNext)
  (tSeq (tAsg (tLc (iSeq8 K (L2.tSl (rSlB K) (tVar 0) (tPart (tC (.int 1))) tNoPart)) (gName 5) tYes (tCall (spP S_law_due) [] E0 (tCons (tVar 5) (tCons (tVar 1) tNil))) [5]) (gName 2))
  (tSeq (tIfS (tTest (tOp (rEqD K) (tOp (rIx8 K) (tVar 0) (tC (.int 0))) (tC (.str "not")))) (tRet (tDGet (tDisp [(tC (.str "none"), tC (.str "all")), (tC (.str "all"), tC (.str "none")), (tC (.str "some"), tC (.str "some"))]) (tOp (rIx8 K) (tVar 2) (tC (.int 0))))) tNext)
  (tSeq (tAsg (tIf (tTest (tOp (rEqD K) (tOp (rIx8 K) (tVar 0) (tC (.int 0))) (tC (.str "and")))) (tTup (tCons (tC (.str "none")) (tCons (tC (.str "all")) tNil))) (tTup (tCons (tC (.str "all")) (tCons (tC (.str "none")) tNil)))) (gTup K 2 (gCons (gName 3) (gCons (gName 4) gNil))))
  (tSeq (tIfS (tTest (tOp (rInD K) (tVar 3) (tVar 2))) (tRet (tVar 3)) tNext)
  (tRet (tIf (tTest (tOp (rEqD K) (tVar 2) (tOp rRep (tLst (tCons (tVar 4) tNil)) (tCB (rLen8 K) (tCons (tVar 2) tNil))))) (tVar 4) (tC (.str "some")))))))))))
def w_law_due (S_law_single_due S_law_due : S8) : WS :=
  (wSeq (wIfS (wB (wOp wEqD (wOp wIx (wVar 1) (wC (.int 0))) (wC (.int 0)))) (wRet (wC (.str "none"))) wNext)
  (wSeq (wIfS (wB (wOp wEqD (wOp wIx (wVar 0) (wC (.int 0))) (wC (.str "all")))) (wRet (wC (.str "all"))) wNext)
  (wSeq (wIfS (wB (wOp wInD (wOp wIx (wVar 0) (wC (.int 0))) (wLst (wCons (wC (.str "has")) (wCons (wC (.str "in")) wNil))))) (wRet (wCall S_law_single_due (wCons (wVar 0) (wCons (wVar 1) wNil)))) wNext)
  (wSeq (wAsg (wL (wLc (wSeq8 (wSl (wVar 0) (wPart (wC (.int 1))) wNoPart)) (wgName 5) wYes (wCall S_law_due (wCons (wVar 5) (wCons (wVar 1) wNil))) [5])) (wgName 2))
  (wSeq (wIfS (wB (wOp wEqD (wOp wIx (wVar 0) (wC (.int 0))) (wC (.str "not")))) (wRet (wDict3 "none" "all" "all" "none" "some" "some" (wOp wIx (wVar 2) (wC (.int 0))))) wNext)
  (wSeq (wAsg (wIfE (wB (wOp wEqD (wOp wIx (wVar 0) (wC (.int 0))) (wC (.str "and")))) (wTup (wCons (wC (.str "none")) (wCons (wC (.str "all")) wNil))) (wTup (wCons (wC (.str "all")) (wCons (wC (.str "none")) wNil)))) (wgTup 2 (wgCons (wgName 3) (wgCons (wgName 4) wgNil))))
  (wSeq (wIfS (wB (wOp wInD (wVar 3) (wVar 2))) (wRet (wVar 3)) wNext)
  (wRet (wIfE (wB (wOp wEqD (wVar 2) (wOp wRep (wLst (wCons (wVar 4) wNil)) (wCB wLen (wCons (wVar 2) wNil))))) (wVar 4) (wC (.str "some")))))))))))
theorem snd_law_due {K : PySem.W.Frag} {S_law_single_due S_law_due : S8} : SndS (t_law_due K S_law_single_due S_law_due) (w_law_due S_law_single_due S_law_due) :=
  (s_seq (s_if (snd_test (snd_op r_eq (snd_op r_ix (snd_var 1) (snd_int 0)) (snd_int 0))) (s_ret (snd_str "none")) s_next)
  (s_seq (s_if (snd_test (snd_op r_eq (snd_op r_ix (snd_var 0) (snd_int 0)) (snd_str "all"))) (s_ret (snd_str "all")) s_next)
  (s_seq (s_if (snd_test (snd_op r_in (snd_op r_ix (snd_var 0) (snd_int 0)) (snd_lst (snd_cons (snd_str "has") (snd_cons (snd_str "in") snd_nil))))) (s_ret (snd_call (snd_cons (snd_var 0) (snd_cons (snd_var 1) snd_nil)))) s_next)
  (s_seq (s_asg (snd_L (l_lc (i_seq (snd_sl (snd_var 0) (snd_part (snd_int 1)) snd_noPart)) (g_name 5) (in_name (by decide)) snd_yes (snd_call (snd_cons (snd_var 5) (snd_cons (snd_var 1) snd_nil))))) (g_name 2))
  (s_seq (s_if (snd_test (snd_op r_eq (snd_op r_ix (snd_var 0) (snd_int 0)) (snd_str "not"))) (s_ret (snd_dict3 (by decide) (by decide) (by decide) (snd_op r_ix (snd_var 2) (snd_int 0)))) s_next)
  (s_seq (s_asg (snd_ifE (snd_test (snd_op r_eq (snd_op r_ix (snd_var 0) (snd_int 0)) (snd_str "and"))) (snd_tup (snd_cons (snd_str "none") (snd_cons (snd_str "all") snd_nil))) (snd_tup (snd_cons (snd_str "all") (snd_cons (snd_str "none") snd_nil)))) (g_tup (g_cons (g_name 3) (g_cons (g_name 4) g_nil))))
  (s_seq (s_if (snd_test (snd_op r_in (snd_var 3) (snd_var 2))) (s_ret (snd_var 3)) s_next)
  (s_ret (snd_ifE (snd_test (snd_op r_eq (snd_var 2) (snd_op r_rep (snd_lst (snd_cons (snd_var 4) snd_nil)) (snd_cb c_len (snd_cons (snd_var 2) snd_nil))))) (snd_var 4) (snd_str "some"))))))))))
theorem ok_law_due {P : Program} {w : World} {K : PySem.W.Frag} {mg : Str → Option Value} {base : Heap} {f : Addr} {fd : FuncData} {k : Nat} {S S_law_single_due S_law_due : S8}
    (F : Fun K "_law_due" "_law_due" s_law_due f fd) (bi : Bi mg)
    (c_law_single_due : Cal P w K mg base "_law_single_due" ["_law_sieve_here", "_law_told"] k (spP S_law_single_due))
    (c_law_due : Cal P w K mg base "_law_due" ["_law_sieve_here", "_law_told"] k (spP S_law_due))
    (hlen : ∀ ds P, S ds P → ds.length = 2)
    (lw : ∀ ds P, S ds P → w_law_due S_law_single_due S_law_due { nx := fun _ => P .none, rt := P } (dats ds 4)) : FnOk P w K mg base CX0 (k + 1) f fd ["_law_sieve_here", "_law_told"] (spP S) := by
  refine F.ok sc_law_due (len_P hlen) (fun cdv A outer s H vs Q E hr h => ⟨t_law_due K S_law_single_due S_law_due, ?_, run_P (N := N_law_due) snd_law_due (fun ds P hS => by have e := hlen ds P hS; rw [show N_law_due.length - (ds.length) = 4 by rw [e] <;> rfl]; exact lw ds P hS) h⟩)
  exact (pss_cons (ps_if (pt_cmpR (op_eqD hr.units) (pe_ix ix_8 (pv 1) pe_int (fun _ _ => rfl)) pe_int (nomark _)) (pss_one (ps_ret pe_str)) pss_nil)
    (pss_cons (ps_if (pt_cmpR (op_eqD hr.units) (pe_ix ix_8 (pv 0) pe_int (fun _ _ => rfl)) pe_str (nomark _)) (pss_one (ps_ret pe_str)) pss_nil)
    (pss_cons (ps_if (pt_cmpR (op_inD (room65 hr)) (pe_ix ix_8 (pv 0) pe_int (fun _ _ => rfl)) (pe_lst (pa_cons pe_str (pa_cons pe_str pa_nil))) (by rfl)) (pss_one (ps_ret (pe_cal c_law_single_due hr (by rfl) (pa_cons (pv 0) (pa_cons (pv 1) pa_nil))))) pss_nil)
    (pss_cons (ps_setLc (i := 2) (own := [("_law_part", 5)]) (wi := (iSeq8 K (L2.tSl (rSlB K) (tVar 0) (tPart (tC (.int 1))) tNoPart))) (g := (gName 5)) (tt := tYes) (te := (tCall (spP S_law_due) [] E0 (tCons (tVar 5) (tCons (tVar 1) tNil)))) (by rfl) sc_law_due.nd rfl rfl (sw_true rfl rfl rfl (by decide +kernel)) (pi_seq8 (pe_slice sl_both (pv 0) (po_some pe_int) po_none)) (blkOk_by (own := [("_law_part", 5)]) (N := N_law_due) (sc := defScope s_law_due) (by decide +kernel)) (fun _ _ _ _ _ => (pg_name (i := 5) sc_law_due.nd rfl (by first | exact Or.inl rfl | exact Or.inr rfl))) (fun _ _ _ _ _ => pts_nil) (fun _ _ _ _ _ => (pe_cal c_law_due hr (by rfl) (pa_cons (pv 5) (pa_cons (pv 1) pa_nil)))))
    (pss_cons (ps_if (pt_cmpR (op_eqD hr.units) (pe_ix ix_8 (pv 0) pe_int (fun _ _ => rfl)) pe_str (nomark _)) (pss_one (ps_ret (pe_dget (room1 hr) (pe_disp (pps_cons pe_str pe_str (pps_cons pe_str pe_str (pps_cons pe_str pe_str pps_nil))) (by rfl) (by rfl) (fun z => by cases z) (by decide)) (pe_ix ix_8 (pv 2) pe_int (fun _ _ => rfl)) (fun _ _ => rfl)))) pss_nil)
    (pss_cons (ps_asg (pe_ifExp (pt_cmpR (op_eqD hr.units) (pe_ix ix_8 (pv 0) pe_int (fun _ _ => rfl)) pe_str (nomark _)) (pe_tup (pa_cons pe_str (pa_cons pe_str pa_nil))) (pe_tup (pa_cons pe_str (pa_cons pe_str pa_nil)))) (pg_tup (by rfl) (pgs_cons (pg_name (i := 3) sc_law_due.nd rfl (by first | exact Or.inl rfl | exact Or.inr rfl)) (pgs_cons (pg_name (i := 4) sc_law_due.nd rfl (by first | exact Or.inl rfl | exact Or.inr rfl)) pgs_nil))))
    (pss_cons (ps_if (pt_cmpR (op_inD (room65 hr)) (pv 3) (pv 2) (by rfl)) (pss_one (ps_ret (pv 3))) pss_nil)
    (pss_one (ps_ret (pe_ifExp (pt_cmpR (op_eqD hr.units) (pv 2) (pe_op op_rep (pe_lst (pa_cons (pv 4) pa_nil)) (pe_callB k_len (by rfl) bi.len bo_len (pa_cons (pv 2) pa_nil))) (nomark _)) (pv 4) pe_str))))))))))

abbrev s_law_summary : Stmt := topS 31
abbrev N_law_summary : List Str := ["_law_labels_here", "_law_names_here", "_law_some", "_law_rows", "_law_name", "_law_values", "_law_label"]
theorem sc_law_summary : FnScope N_law_summary ["_law_labels_here"] (defScope s_law_summary) :=
  ⟨rfl, rfl, rfl, by decide +kernel, rfl, by decide +kernel, by decide +kernel⟩
def t_law_summary (K : PySem.W.Frag) : TS :=
  (tSeq (tAsg (tLst tNil) (gName 1))
  (tSeq (tFor (iSeq8 K (tVar 0)) (gName 2) (tAsg (tOp rCat (tVar 1) (tLc (iSeq8 K (tVar 2)) (gName 6) (tTest (tOp (rNotInD K) (tOp (rIx8 K) (tVar 6) (tC (.int 0))) (tVar 1))) (tOp (rIx8 K) (tVar 6) (tC (.int 0))) [6])) (gName 1)))
  (tSeq (tAsg (tLst tNil) (gName 3))
  (tSeq (tFor (iSeq8 K (tCB (rSortedS K) (tCons (tVar 1) tNil))) (gName 4) (tSeq (tAsg (tLst tNil) (gName 5))
  (tSeq (tFor (iSeq8 K (tVar 0)) (gName 2) (tAsg (tOp rCat (tVar 5) (tLc (iSeq8 K (tVar 2)) (gName 6) (tTest (tOp (rEqD K) (tOp (rIx8 K) (tVar 6) (tC (.int 0))) (tVar 4))) (tOp (rIx8 K) (tVar 6) (tC (.int 1))) [6])) (gName 5)))
  (tDrop (tBM K "list" rAppend (tVar 3) (tCons (tTup (tCons (tVar 4) (tCons (tCB (rLen8 K) (tCons (tVar 5) tNil)) (tCons (tCB (rMin K) (tCons (tVar 5) tNil)) (tCons (tCB (rMax K) (tCons (tVar 5) tNil)) tNil))))) tNil))))))
  (tRet (tTup (tCons (tCB (rLen8 K) (tCons (tVar 0) tNil)) (tCons (tCB (rTupOf K) (tCons (tVar 3) tNil)) tNil))))))))
def w_law_summary : WS :=
  (wSeq (wAsg (wLst wNil) (wgName 1))
  (wSeq (wFor (wSeq8 (wVar 0)) (wgName 2) (wAsg (wOp wCat (wVar 1) (wL (wLc (wSeq8 (wVar 2)) (wgName 6) (wB (wOp wNotInD (wOp wIx (wVar 6) (wC (.int 0))) (wVar 1))) (wOp wIx (wVar 6) (wC (.int 0))) [6]))) (wgName 1)))
  (wSeq (wOwn wNil 3)
  (wSeq (wFor (wSeq8 (wCB wSortS (wCons (wVar 1) wNil))) (wgName 4) (wSeq (wAsg (wLst wNil) (wgName 5))
  (wSeq (wFor (wSeq8 (wVar 0)) (wgName 2) (wAsg (wOp wCat (wVar 5) (wL (wLc (wSeq8 (wVar 2)) (wgName 6) (wB (wOp wEqD (wOp wIx (wVar 6) (wC (.int 0))) (wVar 4))) (wOp wIx (wVar 6) (wC (.int 1))) [6]))) (wgName 5)))
  (wApp 3 (wTup (wCons (wVar 4) (wCons (wCB wLen (wCons (wVar 5) wNil)) (wCons (wCB wMinL (wCons (wVar 5) wNil)) (wCons (wCB wMaxL (wCons (wVar 5) wNil)) wNil)))))))))
  (wFrz 3 (wRet (wTup (wCons (wCB wLen (wCons (wVar 0) wNil)) (wCons (wCB wTupOf (wCons (wVar 3) wNil)) wNil)))))))))
theorem snd_law_summary {K : PySem.W.Frag} : SndS (t_law_summary K) (w_law_summary) :=
  (s_seq (s_asg (snd_lst snd_nil) (g_name 1))
  (s_seq (s_for (i_seq (snd_var 0)) (g_name 2) (s_asg (snd_op r_cat (snd_var 1) (snd_L (l_lc (i_seq (snd_var 2)) (g_name 6) (in_name (by decide)) (snd_test (snd_op r_notIn (snd_op r_ix (snd_var 6) (snd_int 0)) (snd_var 1))) (snd_op r_ix (snd_var 6) (snd_int 0))))) (g_name 1)))
  (s_seq (s_own l_nil)
  (s_seq (s_for (i_seq (snd_cb c_sortS (snd_cons (snd_var 1) snd_nil))) (g_name 4) (s_seq (s_asg (snd_lst snd_nil) (g_name 5))
  (s_seq (s_for (i_seq (snd_var 0)) (g_name 2) (s_asg (snd_op r_cat (snd_var 5) (snd_L (l_lc (i_seq (snd_var 2)) (g_name 6) (in_name (by decide)) (snd_test (snd_op r_eq (snd_op r_ix (snd_var 6) (snd_int 0)) (snd_var 4))) (snd_op r_ix (snd_var 6) (snd_int 1))))) (g_name 5)))
  (s_app (snd_tup (snd_cons (snd_var 4) (snd_cons (snd_cb c_len (snd_cons (snd_var 5) snd_nil)) (snd_cons (snd_cb c_minL (snd_cons (snd_var 5) snd_nil)) (snd_cons (snd_cb c_maxL (snd_cons (snd_var 5) snd_nil)) snd_nil)))))))))
  (s_frz 3 (s_ret (snd_tup (snd_cons (snd_cb c_len (snd_cons (snd_var 0) snd_nil)) (snd_cons (snd_cb c_tupOf (snd_cons (snd_var 3) snd_nil)) snd_nil)))))))))
theorem ok_law_summary {P : Program} {w : World} {K : PySem.W.Frag} {mg : Str → Option Value} {base : Heap} {f : Addr} {fd : FuncData} {k : Nat} {S : S8}
    (F : Fun K "_law_summary" "_law_summary" s_law_summary f fd) (bi : Bi mg)
    (hlen : ∀ ds P, S ds P → ds.length = 1)
    (lw : ∀ ds P, S ds P → w_law_summary { nx := fun _ => P .none, rt := P } (dats ds 6)) : FnOk P w K mg base CX0 (k + 1) f fd ["_law_labels_here"] (spP S) := by
  refine F.ok sc_law_summary (len_P hlen) (fun cdv A outer s H vs Q E hr h => ⟨t_law_summary K, ?_, run_P (N := N_law_summary) snd_law_summary (fun ds P hS => by have e := hlen ds P hS; rw [show N_law_summary.length - (ds.length) = 6 by rw [e] <;> rfl]; exact lw ds P hS) h⟩)
  exact (pss_cons (ps_set (i := 1) sc_law_summary.nd rfl (Or.inr rfl) (pe_lst pa_nil))
    (pss_cons (ps_for PassesOwn.never (by rfl) (pi_seq8 (pv 0)) (pg_name (i := 2) sc_law_summary.nd rfl (by first | exact Or.inl rfl | exact Or.inr rfl)) (pss_one (ps_set (i := 1) sc_law_summary.nd rfl (Or.inr rfl) (pe_op op_cat (pv 1) (pe_lc (own := [("_law_label", 6)]) (wi := (iSeq8 K (tVar 2))) (g := (gName 6)) (tt := (tTest (tOp (rNotInD K) (tOp (rIx8 K) (tVar 6) (tC (.int 0))) (tVar 1)))) (te := (tOp (rIx8 K) (tVar 6) (tC (.int 0)))) (by rfl) sc_law_summary.nd (pi_seq8 (pv 2)) (blkOk_by (own := [("_law_label", 6)]) (N := N_law_summary) (sc := defScope s_law_summary) (by decide +kernel)) (fun _ _ _ _ _ => (pg_name (i := 6) sc_law_summary.nd rfl (by first | exact Or.inl rfl | exact Or.inr rfl))) (fun _ _ _ _ _ => (pts_one (pt_cmpR (op_notInD (room65 hr)) (pe_ix ix_8 (pv 6) pe_int (fun _ _ => rfl)) (pv 1) (by rfl)))) (fun _ _ _ _ _ => (pe_ix ix_8 (pv 6) pe_int (fun _ _ => rfl))))))))
    (pss_cons (ps_set (i := 3) sc_law_summary.nd rfl (Or.inl rfl) (pe_lst pa_nil))
    (pss_cons (ps_for PassesOwn.never (by rfl) (pi_seq8 (pe_callB cr_sortedS (by rfl) bi.sorted bo_sorted (pa_cons (pv 1) pa_nil))) (pg_name (i := 4) sc_law_summary.nd rfl (by first | exact Or.inl rfl | exact Or.inr rfl)) (pss_cons (ps_set (i := 5) sc_law_summary.nd rfl (Or.inl rfl) (pe_lst pa_nil))
    (pss_cons (ps_for PassesOwn.never (by rfl) (pi_seq8 (pv 0)) (pg_name (i := 2) sc_law_summary.nd rfl (by first | exact Or.inl rfl | exact Or.inr rfl)) (pss_one (ps_set (i := 5) sc_law_summary.nd rfl (Or.inl rfl) (pe_op op_cat (pv 5) (pe_lc (own := [("_law_label", 6)]) (wi := (iSeq8 K (tVar 2))) (g := (gName 6)) (tt := (tTest (tOp (rEqD K) (tOp (rIx8 K) (tVar 6) (tC (.int 0))) (tVar 4)))) (te := (tOp (rIx8 K) (tVar 6) (tC (.int 1)))) (by rfl) sc_law_summary.nd (pi_seq8 (pv 2)) (blkOk_by (own := [("_law_label", 6)]) (N := N_law_summary) (sc := defScope s_law_summary) (by decide +kernel)) (fun _ _ _ _ _ => (pg_name (i := 6) sc_law_summary.nd rfl (by first | exact Or.inl rfl | exact Or.inr rfl))) (fun _ _ _ _ _ => (pts_one (pt_cmpR (op_eqD hr.units) (pe_ix ix_8 (pv 6) pe_int (fun _ _ => rfl)) (pv 4) (nomark _)))) (fun _ _ _ _ _ => (pe_ix ix_8 (pv 6) pe_int (fun _ _ => rfl))))))))
    (pss_one (ps_expr (pe_bm PySem.F.plainAttrs_list PySem.F.slot_list_append PySem.F.type_list_append mt_append (pv 3) (pa_cons (pe_tup (pa_cons (pv 4) (pa_cons (pe_callB k_len (by rfl) bi.len bo_len (pa_cons (pv 5) pa_nil)) (pa_cons (pe_callB (cr_min (by rfl)) (by rfl) bi.min bo_min (pa_cons (pv 5) pa_nil)) (pa_cons (pe_callB (cr_max (by rfl)) (by rfl) bi.max bo_max (pa_cons (pv 5) pa_nil)) pa_nil))))) pa_nil)))))))
    (pss_one (ps_ret (pe_tup (pa_cons (pe_callB k_len (by rfl) bi.len bo_len (pa_cons (pv 0) pa_nil)) (pa_cons (pe_callTy k_tuple (by rfl) bi.tuple bo_tuple (pa_cons (pv 3) pa_nil)) pa_nil)))))))))

abbrev s_law_rows_right : Stmt := topS 34
abbrev N_law_rows_right : List Str := ["_law_heap_here", "_law_count", "_law_low", "_law_many", "_law_high", "_law_told", "_law_start", "_law_sieve_here", "_law_due_here"]
theorem sc_law_rows_right : FnScope N_law_rows_right ["_law_heap_here"] (defScope s_law_rows_right) :=
  ⟨rfl, rfl, rfl, by decide +kernel, rfl, by decide +kernel, by decide +kernel⟩
def t_law_rows_right (K : PySem.W.Frag) (S_law_draw S_law_single_due S_verdict : S8) : TS :=
  (tSeq (tPar 1 2 (tCons (tOp (rI0 fun i j => .int (i + j)) (tC (.int 1)) (tCall (spH S_law_draw) [] E0 (tCons (tVar 0) (tCons (tC (.int 3)) tNil)))) (tCons (tOp (rI0 fun i j => .int (i - j)) (tCall (spH S_law_draw) [] E0 (tCons (tVar 0) (tCons (tC (.int 9)) tNil))) (tC (.int 4))) tNil)))
  (tSeq (tAsg (tOp (rI0 fun i j => .int (i + j)) (tC (.int 1)) (tCall (spH S_law_draw) [] E0 (tCons (tVar 0) (tCons (tVar 1) tNil)))) (gName 3))
  (tSeq (tAsg (tIf (tTest (tOp (rEqD K) (tVar 3) (tC (.int 1)))) (tVar 2) (tOp (rI0 fun i j => .int (i + j)) (tVar 2) (tCall (spH S_law_draw) [] E0 (tCons (tVar 0) (tCons (tC (.int 4)) tNil))))) (gName 4))
  (tSeq (tPar 5 6 (tCons (tTup (tCons (tVar 1) (tCons (tTup (tCons (tTup (tCons (tC (.str "size")) (tCons (tVar 3) (tCons (tVar 2) (tCons (tVar 4) tNil))))) tNil)) tNil))) (tCons (tOp (rI0 fun i j => .int (i + j)) (tOp (rI0 fun i j => .int (i - j)) (tVar 2) (tC (.int 2))) (tCall (spH S_law_draw) [] E0 (tCons (tVar 0) (tCons (tC (.int 6)) tNil)))) tNil)))
  (tSeq (tFor (iSeq8 K (tLst (tCons (tTup (tCons (tC (.str "in")) (tCons (tC (.str "size")) (tCons (tVar 6) (tCons (tOp (rI0 fun i j => .int (i + j)) (tVar 6) (tCall (spH S_law_draw) [] E0 (tCons (tVar 0) (tCons (tC (.int 4)) tNil)))) tNil))))) (tCons (tTup (tCons (tC (.str "has")) (tCons (tC (.str "size")) tNil))) (tCons (tTup (tCons (tC (.str "has")) (tCons (tC (.str "sizes")) tNil))) (tCons (tTup (tCons (tC (.str "in")) (tCons (tC (.str "siz")) (tCons (tVar 2) (tCons (tVar 4) tNil))))) tNil)))))) (gName 7) (tSeq (tAsg (tCall (spP S_law_single_due) [] E0 (tCons (tVar 7) (tCons (tVar 5) tNil))) (gName 8))
  (tIfS (tOr (tTest (tOp (rNeD K) (tCall (spP S_verdict) [] E0 (tCons (tVar 7) (tCons (tVar 5) tNil))) (tVar 8))) (tTest (tOp (rNeD K) (tCall (spP S_verdict) [] E0 (tCons (tTup (tCons (tC (.str "not")) (tCons (tVar 7) tNil))) (tCons (tVar 5) tNil))) (tDGet (tDisp [(tC (.str "none"), tC (.str "all")), (tC (.str "all"), tC (.str "none")), (tC (.str "some"), tC (.str "some"))]) (tVar 8))))) (tRet (tC (.bl false))) tNext)))
  (tRet (tC (.bl true))))))))
def w_law_rows_right (S_law_draw S_law_single_due S_verdict : S8) : WS :=
  (wSeq (wPar 1 2 (wCons (wOp (wI (fun _ _ => True) fun i j => .int (i + j)) (wC (.int 1)) (wCallH S_law_draw 0 (wCons (wC (.int 3)) wNil))) (wCons (wOp (wI (fun _ _ => True) fun i j => .int (i - j)) (wCallH S_law_draw 0 (wCons (wC (.int 9)) wNil)) (wC (.int 4))) wNil)))
  (wSeq (wAsg (wOp (wI (fun _ _ => True) fun i j => .int (i + j)) (wC (.int 1)) (wCallH S_law_draw 0 (wCons (wVar 1) wNil))) (wgName 3))
  (wSeq (wAsg (wIfE (wB (wOp wEqD (wVar 3) (wC (.int 1)))) (wVar 2) (wOp (wI (fun _ _ => True) fun i j => .int (i + j)) (wVar 2) (wCallH S_law_draw 0 (wCons (wC (.int 4)) wNil)))) (wgName 4))
  (wSeq (wPar 5 6 (wCons (wTup (wCons (wVar 1) (wCons (wTup (wCons (wTup (wCons (wC (.str "size")) (wCons (wVar 3) (wCons (wVar 2) (wCons (wVar 4) wNil))))) wNil)) wNil))) (wCons (wOp (wI (fun _ _ => True) fun i j => .int (i + j)) (wOp (wI (fun _ _ => True) fun i j => .int (i - j)) (wVar 2) (wC (.int 2))) (wCallH S_law_draw 0 (wCons (wC (.int 6)) wNil))) wNil)))
  (wSeq (wFor (wSeq8 (wLst (wCons (wTup (wCons (wC (.str "in")) (wCons (wC (.str "size")) (wCons (wVar 6) (wCons (wOp (wI (fun _ _ => True) fun i j => .int (i + j)) (wVar 6) (wCallH S_law_draw 0 (wCons (wC (.int 4)) wNil))) wNil))))) (wCons (wTup (wCons (wC (.str "has")) (wCons (wC (.str "size")) wNil))) (wCons (wTup (wCons (wC (.str "has")) (wCons (wC (.str "sizes")) wNil))) (wCons (wTup (wCons (wC (.str "in")) (wCons (wC (.str "siz")) (wCons (wVar 2) (wCons (wVar 4) wNil))))) wNil)))))) (wgName 7) (wSeq (wAsg (wCall S_law_single_due (wCons (wVar 7) (wCons (wVar 5) wNil))) (wgName 8))
  (wIfS (wOr (wB (wOp wNeD (wCall S_verdict (wCons (wVar 7) (wCons (wVar 5) wNil))) (wVar 8))) (wB (wOp wNeD (wCall S_verdict (wCons (wTup (wCons (wC (.str "not")) (wCons (wVar 7) wNil))) (wCons (wVar 5) wNil))) (wDict3 "none" "all" "all" "none" "some" "some" (wVar 8))))) (wRet (wC (.bool false))) wNext)))
  (wRet (wC (.bool true))))))))
theorem snd_law_rows_right {K : PySem.W.Frag} {S_law_draw S_law_single_due S_verdict : S8} : SndS (t_law_rows_right K S_law_draw S_law_single_due S_verdict) (w_law_rows_right S_law_draw S_law_single_due S_verdict) :=
  (s_seq (s_par (snd_cons (snd_op r_I0 (snd_int 1) (snd_callH (snd_cons (snd_int 3) snd_nil))) (snd_cons (snd_op r_I0 (snd_callH (snd_cons (snd_int 9) snd_nil)) (snd_int 4)) snd_nil)))
  (s_seq (s_asg (snd_op r_I0 (snd_int 1) (snd_callH (snd_cons (snd_var 1) snd_nil))) (g_name 3))
  (s_seq (s_asg (snd_ifE (snd_test (snd_op r_eq (snd_var 3) (snd_int 1))) (snd_var 2) (snd_op r_I0 (snd_var 2) (snd_callH (snd_cons (snd_int 4) snd_nil)))) (g_name 4))
  (s_seq (s_par (snd_cons (snd_tup (snd_cons (snd_var 1) (snd_cons (snd_tup (snd_cons (snd_tup (snd_cons (snd_str "size") (snd_cons (snd_var 3) (snd_cons (snd_var 2) (snd_cons (snd_var 4) snd_nil))))) snd_nil)) snd_nil))) (snd_cons (snd_op r_I0 (snd_op r_I0 (snd_var 2) (snd_int 2)) (snd_callH (snd_cons (snd_int 6) snd_nil))) snd_nil)))
  (s_seq (s_for (i_seq (snd_lst (snd_cons (snd_tup (snd_cons (snd_str "in") (snd_cons (snd_str "size") (snd_cons (snd_var 6) (snd_cons (snd_op r_I0 (snd_var 6) (snd_callH (snd_cons (snd_int 4) snd_nil))) snd_nil))))) (snd_cons (snd_tup (snd_cons (snd_str "has") (snd_cons (snd_str "size") snd_nil))) (snd_cons (snd_tup (snd_cons (snd_str "has") (snd_cons (snd_str "sizes") snd_nil))) (snd_cons (snd_tup (snd_cons (snd_str "in") (snd_cons (snd_str "siz") (snd_cons (snd_var 2) (snd_cons (snd_var 4) snd_nil))))) snd_nil)))))) (g_name 7) (s_seq (s_asg (snd_call (snd_cons (snd_var 7) (snd_cons (snd_var 5) snd_nil))) (g_name 8))
  (s_if (snd_or (snd_test (snd_op r_ne (snd_call (snd_cons (snd_var 7) (snd_cons (snd_var 5) snd_nil))) (snd_var 8))) (snd_test (snd_op r_ne (snd_call (snd_cons (snd_tup (snd_cons (snd_str "not") (snd_cons (snd_var 7) snd_nil))) (snd_cons (snd_var 5) snd_nil))) (snd_dict3 (by decide) (by decide) (by decide) (snd_var 8))))) (s_ret (snd_bl false)) s_next)))
  (s_ret (snd_bl true)))))))
theorem ok_law_rows_right {P : Program} {w : World} {K : PySem.W.Frag} {mg : Str → Option Value} {base : Heap} {f : Addr} {fd : FuncData} {k : Nat} {S S_law_draw S_law_single_due S_verdict : S8}
    (F : Fun K "_law_rows_right" "_law_rows_right" s_law_rows_right f fd) (bi : Bi mg)
    (c_law_draw : Cal P w K mg base "_law_draw" ["_law_heap_here", "_law_many"] k (spH S_law_draw))
    (c_law_single_due : Cal P w K mg base "_law_single_due" ["_law_sieve_here", "_law_told"] k (spP S_law_single_due))
    (c_verdict : Cal P w K mg base "verdict" ["sieve", "told"] k (spP S_verdict))
    (hlen : ∀ ds P, S ds P → ds.length + 1 = 1)
    (lw : ∀ ds P, S ds P → w_law_rows_right S_law_draw S_law_single_due S_verdict { nx := fun _ => P .none, rt := P } (.heap :: dats ds 8)) : FnOk P w K mg base CX0 (k + 1) f fd ["_law_heap_here"] (spH S) := by
  refine F.ok sc_law_rows_right (len_H hlen) (fun cdv A outer s H vs Q E hr h => ⟨t_law_rows_right K S_law_draw S_law_single_due S_verdict, ?_, run_H (N := N_law_rows_right) snd_law_rows_right (fun ds P hS => by have e := hlen ds P hS; rw [show N_law_rows_right.length - (ds.length + 1) = 8 by rw [e] <;> rfl]; exact lw ds P hS) h⟩)
  exact (pss_cons (ps_par (i := 1) (j := 2) (by rfl) sc_law_rows_right.nd rfl rfl (by decide) rfl rfl (pa_cons (pe_op op_add pe_int (pe_cal c_law_draw hr (by rfl) (pa_cons (pv 0) (pa_cons pe_int pa_nil)))) (pa_cons (pe_op op_sub (pe_cal c_law_draw hr (by rfl) (pa_cons (pv 0) (pa_cons pe_int pa_nil))) pe_int) pa_nil)) (by rfl))
    (pss_cons (ps_set (i := 3) sc_law_rows_right.nd rfl (Or.inl rfl) (pe_op op_add pe_int (pe_cal c_law_draw hr (by rfl) (pa_cons (pv 0) (pa_cons (pv 1) pa_nil)))))
    (pss_cons (ps_set (i := 4) sc_law_rows_right.nd rfl (Or.inl rfl) (pe_ifExp (pt_cmpR (op_eqD hr.units) (pv 3) pe_int (nomark _)) (pv 2) (pe_op op_add (pv 2) (pe_cal c_law_draw hr (by rfl) (pa_cons (pv 0) (pa_cons pe_int pa_nil))))))
    (pss_cons (ps_par (i := 5) (j := 6) (by rfl) sc_law_rows_right.nd rfl rfl (by decide) rfl rfl (pa_cons (pe_tup (pa_cons (pv 1) (pa_cons (pe_tup (pa_cons (pe_tup (pa_cons pe_str (pa_cons (pv 3) (pa_cons (pv 2) (pa_cons (pv 4) pa_nil))))) pa_nil)) pa_nil))) (pa_cons (pe_op op_add (pe_op op_sub (pv 2) pe_int) (pe_cal c_law_draw hr (by rfl) (pa_cons (pv 0) (pa_cons pe_int pa_nil)))) pa_nil)) (by rfl))
    (pss_cons (ps_for PassesOwn.never (by rfl) (pi_seq8 (pe_lst (pa_cons (pe_tup (pa_cons pe_str (pa_cons pe_str (pa_cons (pv 6) (pa_cons (pe_op op_add (pv 6) (pe_cal c_law_draw hr (by rfl) (pa_cons (pv 0) (pa_cons pe_int pa_nil)))) pa_nil))))) (pa_cons (pe_tup (pa_cons pe_str (pa_cons pe_str pa_nil))) (pa_cons (pe_tup (pa_cons pe_str (pa_cons pe_str pa_nil))) (pa_cons (pe_tup (pa_cons pe_str (pa_cons pe_str (pa_cons (pv 2) (pa_cons (pv 4) pa_nil))))) pa_nil)))))) (pg_name (i := 7) sc_law_rows_right.nd rfl (by first | exact Or.inl rfl | exact Or.inr rfl)) (pss_cons (ps_set (i := 8) sc_law_rows_right.nd rfl (Or.inl rfl) (pe_cal c_law_single_due hr (by rfl) (pa_cons (pv 7) (pa_cons (pv 5) pa_nil))))
    (pss_one (ps_if ((pw_or (pt_cmpR (op_neD hr.units) (pe_cal c_verdict hr (by rfl) (pa_cons (pv 7) (pa_cons (pv 5) pa_nil))) (pv 8) (nomark _)) (pw_or1 (pt_cmpR (op_neD hr.units) (pe_cal c_verdict hr (by rfl) (pa_cons (pe_tup (pa_cons pe_str (pa_cons (pv 7) pa_nil))) (pa_cons (pv 5) pa_nil))) (pe_dget (room1 hr) (pe_disp (pps_cons pe_str pe_str (pps_cons pe_str pe_str (pps_cons pe_str pe_str pps_nil))) (by rfl) (by rfl) (fun z => by cases z) (by decide)) (pv 8) (fun _ _ => rfl)) (nomark _))))).pt (pss_one (ps_ret pe_bl)) pss_nil))))
    (pss_one (ps_ret pe_bl)))))))

end D8
namespace D8
open PySem PySem.Spec PyProof.Rows L2
abbrev s_law_single_due : Stmt := topS 29
abbrev N_law_single_due : List Str := ["_law_sieve_here", "_law_told", "_law_words", "_law_some", "_law_lets_here", "_law_item"]
theorem sc_law_single_due : FnScope N_law_single_due ["_law_sieve_here", "_law_told"] (defScope s_law_single_due) :=
  ⟨rfl, rfl, rfl, by decide +kernel, rfl, by decide +kernel, by decide +kernel⟩
def t_law_single_due (K : PySem.W.Frag) (S_law_columns : S8) : TS :=
  (tSeq (tAsg (tLst tNil) (gName 2))
  (tSeq (tFor (iSeq8 K (tCall (spP S_law_columns) [] E0 (tCons (tVar 1) (tCons (tOp (rIx8 K) (tVar 0) (tC (.int 1))) tNil)))) (gName 3) (tSeq (tAsg (tLc (iSeq8 K (tVar 3)) (gName 5) tYes (tAndV (tNotN (tVar 5)) (tOrV (tOp (rEqD K) (tOp (rIx8 K) (tVar 0) (tC (.int 0))) (tC (.str "has"))) (tChain (rI0 fun i j => .bl (decide (i ≤ j))) (rI0 fun i j => .bl (decide (i ≤ j))) (tOp (rIx8 K) (tVar 0) (tC (.int 2))) (tVar 5) (tOp (rIx8 K) (tVar 0) (tC (.int 3)))))) [5]) (gName 4))
  (tDrop (tBM K "list" rAppend (tVar 2) (tCons (tIf (tTest (tOp (rNotInD K) (tC (.bl false)) (tVar 4))) (tC (.str "all")) (tIf (tTest (tOp (rNotInD K) (tC (.bl true)) (tVar 4))) (tC (.str "none")) (tC (.str "some")))) tNil)))))
  (tRet (tIf (tTest (tOp (rEqD K) (tLenSet8 (tVar 2)) (tC (.int 1)))) (tOp (rIx8 K) (tVar 2) (tC (.int 0))) (tC (.str "some"))))))
def w_law_single_due (S_law_columns : S8) : WS :=
  (wSeq (wOwn wNil 2)
  (wSeq (wFor (wSeq8 (wCall S_law_columns (wCons (wVar 1) (wCons (wOp wIx (wVar 0) (wC (.int 1))) wNil)))) (wgName 3) (wSeq (wAsg (wL (wLc (wSeq8 (wVar 3)) (wgName 5) wYes (wAndV (wNotN (wVar 5)) (wOrV (wOp wEqD (wOp wIx (wVar 0) (wC (.int 0))) (wC (.str "has"))) (wChain (wI (fun _ _ => True) fun i j => .bool (decide (i ≤ j))) (wI (fun _ _ => True) fun i j => .bool (decide (i ≤ j))) (wOp wIx (wVar 0) (wC (.int 2))) (wVar 5) (wOp wIx (wVar 0) (wC (.int 3)))))) [5])) (wgName 4))
  (wApp 2 (wIfE (wB (wOp wNotInD (wC (.bool false)) (wVar 4))) (wC (.str "all")) (wIfE (wB (wOp wNotInD (wC (.bool true)) (wVar 4))) (wC (.str "none")) (wC (.str "some")))))))
  (wFrz 2 (wRet (wIfE (wB (wOp wEqD (wLenSet8 (wVar 2)) (wC (.int 1)))) (wOp wIx (wVar 2) (wC (.int 0))) (wC (.str "some")))))))
theorem snd_law_single_due {K : PySem.W.Frag} {S_law_columns : S8} : SndS (t_law_single_due K S_law_columns) (w_law_single_due S_law_columns) :=
  (s_seq (s_own l_nil)
  (s_seq (s_for (i_seq (snd_call (snd_cons (snd_var 1) (snd_cons (snd_op r_ix (snd_var 0) (snd_int 1)) snd_nil)))) (g_name 3) (s_seq (s_asg (snd_L (l_lc (i_seq (snd_var 3)) (g_name 5) (in_name (by decide)) snd_yes (snd_andV (snd_notN (snd_var 5)) (snd_orV (snd_op r_eq (snd_op r_ix (snd_var 0) (snd_int 0)) (snd_str "has")) (snd_chain r_B0 r_B0 (snd_op r_ix (snd_var 0) (snd_int 2)) (snd_var 5) (snd_op r_ix (snd_var 0) (snd_int 3))))))) (g_name 4))
  (s_app (snd_ifE (snd_test (snd_op r_notIn (snd_bl false) (snd_var 4))) (snd_str "all") (snd_ifE (snd_test (snd_op r_notIn (snd_bl true) (snd_var 4))) (snd_str "none") (snd_str "some"))))))
  (s_frz 2 (s_ret (snd_ifE (snd_test (snd_op r_eq (snd_lenSet8 (snd_var 2)) (snd_int 1))) (snd_op r_ix (snd_var 2) (snd_int 0)) (snd_str "some"))))))
theorem ok_law_single_due {P : Program} {w : World} {K : PySem.W.Frag} {mg : Str → Option Value} {base : Heap} {f : Addr} {fd : FuncData} {k : Nat} {S S_law_columns : S8}
    (F : Fun K "_law_single_due" "_law_single_due" s_law_single_due f fd) (bi : Bi mg)
    (c_law_columns : Cal P w K mg base "_law_columns" ["_law_told", "_law_name"] k (spP S_law_columns))
    (hlen : ∀ ds P, S ds P → ds.length = 2)
    (lw : ∀ ds P, S ds P → w_law_single_due S_law_columns { nx := fun _ => P .none, rt := P } (dats ds 4)) : FnOk P w K mg base CX0 (k + 1) f fd ["_law_sieve_here", "_law_told"] (spP S) := by
  refine F.ok sc_law_single_due (len_P hlen) (fun cdv A outer s H vs Q E hr h => ⟨t_law_single_due K S_law_columns, ?_, run_P (N := N_law_single_due) snd_law_single_due (fun ds P hS => by have e := hlen ds P hS; rw [show N_law_single_due.length - (ds.length) = 4 by rw [e] <;> rfl]; exact lw ds P hS) h⟩)
  exact (pss_cons (ps_set (i := 2) sc_law_single_due.nd rfl (Or.inl rfl) (pe_lst pa_nil))
    (pss_cons (ps_for PassesOwn.never (by rfl) (pi_seq8 (pe_cal c_law_columns hr (by rfl) (pa_cons (pv 1) (pa_cons (pe_ix ix_8 (pv 0) pe_int (fun _ _ => rfl)) pa_nil)))) (pg_name (i := 3) sc_law_single_due.nd rfl (by first | exact Or.inl rfl | exact Or.inr rfl)) (pss_cons (ps_setLc (i := 4) (own := [("_law_item", 5)]) (wi := (iSeq8 K (tVar 3))) (g := (gName 5)) (tt := tYes) (te := (tAndV (tNotN (tVar 5)) (tOrV (tOp (rEqD K) (tOp (rIx8 K) (tVar 0) (tC (.int 0))) (tC (.str "has"))) (tChain (rI0 fun i j => .bl (decide (i ≤ j))) (rI0 fun i j => .bl (decide (i ≤ j))) (tOp (rIx8 K) (tVar 0) (tC (.int 2))) (tVar 5) (tOp (rIx8 K) (tVar 0) (tC (.int 3))))))) (by rfl) sc_law_single_due.nd rfl rfl (sw_true rfl rfl rfl (by decide +kernel)) (pi_seq8 (pv 3)) (blkOk_by (own := [("_law_item", 5)]) (N := N_law_single_due) (sc := defScope s_law_single_due) (by decide +kernel)) (fun _ _ _ _ _ => (pg_name (i := 5) sc_law_single_due.nd rfl (by first | exact Or.inl rfl | exact Or.inr rfl))) (fun _ _ _ _ _ => pts_nil) (fun _ _ _ _ _ => (pe_and (pe_cmp (pc_notN (pv 5))) (pe_one (pe_or (pe_cmpR (op_eqD hr.units) (pe_ix ix_8 (pv 0) pe_int (fun _ _ => rfl)) pe_str (nomark _)) (pe_one (pe_chain op_le op_le (pe_ix ix_8 (pv 0) pe_int (fun _ _ => rfl)) (pv 5) (pe_ix ix_8 (pv 0) pe_int (fun _ _ => rfl)))))))))
    (pss_one (ps_expr (pe_bm PySem.F.plainAttrs_list PySem.F.slot_list_append PySem.F.type_list_append mt_append (pv 2) (pa_cons (pe_ifExp (pt_cmpR (op_notInD (room65 hr)) pe_bl (pv 4) (by rfl)) pe_str (pe_ifExp (pt_cmpR (op_notInD (room65 hr)) pe_bl (pv 4) (by rfl)) pe_str pe_str)) pa_nil))))))
    (pss_one (ps_ret (pe_ifExp (pt_cmpR (op_eqD hr.units) (pe_lenSet8 (by rfl) (by rfl) bi.len (by rfl) bi.set (pv 2)) pe_int (nomark _)) (pe_ix ix_8 (pv 2) pe_int (fun _ _ => rfl)) pe_str)))))

abbrev s_law_told_right : Stmt := topS 32
abbrev N_law_told_right : List Str := ["_law_sieve_here", "_law_told", "_law_labels_here", "_law_word", "_law_some", "_law_lets_here"]
theorem sc_law_told_right : FnScope N_law_told_right ["_law_sieve_here", "_law_told", "_law_labels_here"] (defScope s_law_told_right) :=
  ⟨rfl, rfl, rfl, by decide +kernel, rfl, by decide +kernel, by decide +kernel⟩
def t_law_told_right (K : PySem.W.Frag) (S_verdict S_may_pass S_must_pass S_law_lets S_passes : S8) : TS :=
  (tSeq (tAsg (tCall (spP S_verdict) [] E0 (tCons (tVar 0) (tCons (tVar 1) tNil))) (gName 3))
  (tSeq (tIfS (tOr (tTest (tOp (rNotInD K) (tVar 3) (tLst (tCons (tC (.str "none")) (tCons (tC (.str "all")) (tCons (tC (.str "some")) tNil)))))) (tTest (tOp (rNeD K) (tCB rRepr1 (tCons (tCall (spP S_may_pass) [] E0 (tCons (tVar 0) (tCons (tVar 1) tNil))) tNil)) (tCB rRepr1 (tCons (tOp (rNeD K) (tVar 3) (tC (.str "none"))) tNil))))) (tRet (tC (.bl false))) tNext)
  (tSeq (tIfS (tTest (tOp (rNeD K) (tCB rRepr1 (tCons (tCall (spP S_must_pass) [] E0 (tCons (tVar 0) (tCons (tVar 1) tNil))) tNil)) (tCB rRepr1 (tCons (tOrV (tOp (rEqD K) (tVar 3) (tC (.str "all"))) (tOp (rEqD K) (tOp (rIx8 K) (tVar 1) (tC (.int 0))) (tC (.int 0)))) tNil)))) (tRet (tC (.bl false))) tNext)
  (tSeq (tIfS (tOr (tTest (tOp (rNeD K) (tCal2 (spP S_may_pass) (tVar 1) (tVar 0)) (tOp (rNeD K) (tVar 3) (tC (.str "none"))))) (tTest (tOp (rNeD K) (tCal2 (spP S_must_pass) (tVar 1) (tVar 0)) (tOrV (tOp (rEqD K) (tVar 3) (tC (.str "all"))) (tOp (rEqD K) (tOp (rIx8 K) (tVar 1) (tC (.int 0))) (tC (.int 0))))))) (tRet (tC (.bl false))) tNext)
  (tSeq (tIfS (tAnd (tTest (tOp (rI0 fun i j => .bl (decide (j < i))) (tOp (rIx8 K) (tVar 1) (tC (.int 0))) (tC (.int 0)))) (tTest (tOp (rNeD K) (tCall (spP S_verdict) [] E0 (tCons (tTup (tCons (tC (.str "not")) (tCons (tVar 0) tNil))) (tCons (tVar 1) tNil))) (tDGet (tDisp [(tC (.str "none"), tC (.str "all")), (tC (.str "all"), tC (.str "none")), (tC (.str "some"), tC (.str "some"))]) (tVar 3))))) (tRet (tC (.bl false))) tNext)
  (tSeq (tFor (iSeq8 K (tVar 2)) (gName 4) (tSeq (tAsg (tCall (spP S_law_lets) [] E0 (tCons (tVar 0) (tCons (tVar 4) tNil))) (gName 5))
  (tIfS (tOr (tTest (tOp (rNeD K) (tCall (spP S_passes) [] E0 (tCons (tVar 0) (tCons (tTup (tCons (tC (.int 1)) (tCons (tTup tNil) (tCons (tVar 4) tNil)))) tNil))) (tVar 5))) (tOr (tAnd (tTest (tOp (rEqD K) (tVar 3) (tC (.str "none")))) (L2.tB (tVar 5))) (tAnd (tTest (tOp (rEqD K) (tVar 3) (tC (.str "all")))) (tNot (L2.tB (tVar 5)))))) (tRet (tC (.bl false))) tNext)))
  (tRet (tOp (rEqD K) (tCal2 (spP S_verdict) (tVar 1) (tVar 0)) (tVar 3)))))))))
def w_law_told_right (S_verdict S_may_pass S_must_pass S_law_lets S_passes : S8) : WS :=
  (wSeq (wAsg (wCall S_verdict (wCons (wVar 0) (wCons (wVar 1) wNil))) (wgName 3))
  (wSeq (wIfS (wOr (wB (wOp wNotInD (wVar 3) (wLst (wCons (wC (.str "none")) (wCons (wC (.str "all")) (wCons (wC (.str "some")) wNil)))))) (wB (wOp wNeD (wCB wRepr1 (wCons (wCall S_may_pass (wCons (wVar 0) (wCons (wVar 1) wNil))) wNil)) (wCB wRepr1 (wCons (wOp wNeD (wVar 3) (wC (.str "none"))) wNil))))) (wRet (wC (.bool false))) wNext)
  (wSeq (wIfS (wB (wOp wNeD (wCB wRepr1 (wCons (wCall S_must_pass (wCons (wVar 0) (wCons (wVar 1) wNil))) wNil)) (wCB wRepr1 (wCons (wOrV (wOp wEqD (wVar 3) (wC (.str "all"))) (wOp wEqD (wOp wIx (wVar 1) (wC (.int 0))) (wC (.int 0)))) wNil)))) (wRet (wC (.bool false))) wNext)
  (wSeq (wIfS (wOr (wB (wOp wNeD (wCal2 S_may_pass (wVar 1) (wVar 0)) (wOp wNeD (wVar 3) (wC (.str "none"))))) (wB (wOp wNeD (wCal2 S_must_pass (wVar 1) (wVar 0)) (wOrV (wOp wEqD (wVar 3) (wC (.str "all"))) (wOp wEqD (wOp wIx (wVar 1) (wC (.int 0))) (wC (.int 0))))))) (wRet (wC (.bool false))) wNext)
  (wSeq (wIfS (wAnd (wB (wOp (wI (fun _ _ => True) fun i j => .bool (decide (j < i))) (wOp wIx (wVar 1) (wC (.int 0))) (wC (.int 0)))) (wB (wOp wNeD (wCall S_verdict (wCons (wTup (wCons (wC (.str "not")) (wCons (wVar 0) wNil))) (wCons (wVar 1) wNil))) (wDict3 "none" "all" "all" "none" "some" "some" (wVar 3))))) (wRet (wC (.bool false))) wNext)
  (wSeq (wFor (wSeq8 (wVar 2)) (wgName 4) (wSeq (wAsg (wCall S_law_lets (wCons (wVar 0) (wCons (wVar 4) wNil))) (wgName 5))
  (wIfS (wOr (wB (wOp wNeD (wCall S_passes (wCons (wVar 0) (wCons (wTup (wCons (wC (.int 1)) (wCons (wTup wNil) (wCons (wVar 4) wNil)))) wNil))) (wVar 5))) (wOr (wAnd (wB (wOp wEqD (wVar 3) (wC (.str "none")))) (wB (wVar 5))) (wAnd (wB (wOp wEqD (wVar 3) (wC (.str "all")))) (wNot (wB (wVar 5)))))) (wRet (wC (.bool false))) wNext)))
  (wRet (wOp wEqD (wCal2 S_verdict (wVar 1) (wVar 0)) (wVar 3)))))))))
theorem snd_law_told_right {K : PySem.W.Frag} {S_verdict S_may_pass S_must_pass S_law_lets S_passes : S8} : SndS (t_law_told_right K S_verdict S_may_pass S_must_pass S_law_lets S_passes) (w_law_told_right S_verdict S_may_pass S_must_pass S_law_lets S_passes) :=
  (s_seq (s_asg (snd_call (snd_cons (snd_var 0) (snd_cons (snd_var 1) snd_nil))) (g_name 3))
  (s_seq (s_if (snd_or (snd_test (snd_op r_notIn (snd_var 3) (snd_lst (snd_cons (snd_str "none") (snd_cons (snd_str "all") (snd_cons (snd_str "some") snd_nil)))))) (snd_test (snd_op r_ne (snd_cb c_repr1 (snd_cons (snd_call (snd_cons (snd_var 0) (snd_cons (snd_var 1) snd_nil))) snd_nil)) (snd_cb c_repr1 (snd_cons (snd_op r_ne (snd_var 3) (snd_str "none")) snd_nil))))) (s_ret (snd_bl false)) s_next)
  (s_seq (s_if (snd_test (snd_op r_ne (snd_cb c_repr1 (snd_cons (snd_call (snd_cons (snd_var 0) (snd_cons (snd_var 1) snd_nil))) snd_nil)) (snd_cb c_repr1 (snd_cons (snd_orV (snd_op r_eq (snd_var 3) (snd_str "all")) (snd_op r_eq (snd_op r_ix (snd_var 1) (snd_int 0)) (snd_int 0))) snd_nil)))) (s_ret (snd_bl false)) s_next)
  (s_seq (s_if (snd_or (snd_test (snd_op r_ne (snd_cal2 (snd_var 1) (snd_var 0)) (snd_op r_ne (snd_var 3) (snd_str "none")))) (snd_test (snd_op r_ne (snd_cal2 (snd_var 1) (snd_var 0)) (snd_orV (snd_op r_eq (snd_var 3) (snd_str "all")) (snd_op r_eq (snd_op r_ix (snd_var 1) (snd_int 0)) (snd_int 0)))))) (s_ret (snd_bl false)) s_next)
  (s_seq (s_if (snd_and (snd_test (snd_op r_B0 (snd_op r_ix (snd_var 1) (snd_int 0)) (snd_int 0))) (snd_test (snd_op r_ne (snd_call (snd_cons (snd_tup (snd_cons (snd_str "not") (snd_cons (snd_var 0) snd_nil))) (snd_cons (snd_var 1) snd_nil))) (snd_dict3 (by decide) (by decide) (by decide) (snd_var 3))))) (s_ret (snd_bl false)) s_next)
  (s_seq (s_for (i_seq (snd_var 2)) (g_name 4) (s_seq (s_asg (snd_call (snd_cons (snd_var 0) (snd_cons (snd_var 4) snd_nil))) (g_name 5))
  (s_if (snd_or (snd_test (snd_op r_ne (snd_call (snd_cons (snd_var 0) (snd_cons (snd_tup (snd_cons (snd_int 1) (snd_cons (snd_tup snd_nil) (snd_cons (snd_var 4) snd_nil)))) snd_nil))) (snd_var 5))) (snd_or (snd_and (snd_test (snd_op r_eq (snd_var 3) (snd_str "none"))) (snd_B (snd_var 5))) (snd_and (snd_test (snd_op r_eq (snd_var 3) (snd_str "all"))) (snd_not (snd_B (snd_var 5)))))) (s_ret (snd_bl false)) s_next)))
  (s_ret (snd_op r_eq (snd_cal2 (snd_var 1) (snd_var 0)) (snd_var 3)))))))))
theorem ok_law_told_right {P : Program} {w : World} {K : PySem.W.Frag} {mg : Str → Option Value} {base : Heap} {f : Addr} {fd : FuncData} {k : Nat} {S S_verdict S_may_pass S_must_pass S_law_lets S_passes : S8}
    (F : Fun K "_law_told_right" "_law_told_right" s_law_told_right f fd) (bi : Bi mg)
    (c_verdict : Cal P w K mg base "verdict" ["sieve", "told"] k (spP S_verdict))
    (c_may_pass : Cal P w K mg base "may_pass" ["sieve", "told"] k (spP S_may_pass))
    (c_must_pass : Cal P w K mg base "must_pass" ["sieve", "told"] k (spP S_must_pass))
    (c_law_lets : Cal P w K mg base "_law_lets" ["_law_sieve_here", "_law_labels_here"] k (spP S_law_lets))
    (c_passes : Cal P w K mg base "passes" ["sieve", "item"] k (spP S_passes))
    (d_may_pass : Cal2 P w K mg base "may_pass" "sieve" "told" k (spP S_may_pass))
    (d_must_pass : Cal2 P w K mg base "must_pass" "sieve" "told" k (spP S_must_pass))
    (d_verdict : Cal2 P w K mg base "verdict" "sieve" "told" k (spP S_verdict))
    (hlen : ∀ ds P, S ds P → ds.length = 3)
    (lw : ∀ ds P, S ds P → w_law_told_right S_verdict S_may_pass S_must_pass S_law_lets S_passes { nx := fun _ => P .none, rt := P } (dats ds 3)) : FnOk P w K mg base CX0 (k + 1) f fd ["_law_sieve_here", "_law_told", "_law_labels_here"] (spP S) := by
  refine F.ok sc_law_told_right (len_P hlen) (fun cdv A outer s H vs Q E hr h => ⟨t_law_told_right K S_verdict S_may_pass S_must_pass S_law_lets S_passes, ?_, run_P (N := N_law_told_right) snd_law_told_right (fun ds P hS => by have e := hlen ds P hS; rw [show N_law_told_right.length - (ds.length) = 3 by rw [e] <;> rfl]; exact lw ds P hS) h⟩)
  exact (pss_cons (ps_set (i := 3) sc_law_told_right.nd rfl (Or.inl rfl) (pe_cal c_verdict hr (by rfl) (pa_cons (pv 0) (pa_cons (pv 1) pa_nil))))
    (pss_cons (ps_if ((pw_or (pt_cmpR (op_notInD (room65 hr)) (pv 3) (pe_lst (pa_cons pe_str (pa_cons pe_str (pa_cons pe_str pa_nil)))) (by rfl)) (pw_or1 (pt_cmpR (op_neD hr.units) (pe_callB k_repr1 (by rfl) bi.repr bo_repr (pa_cons (pe_cal c_may_pass hr (by rfl) (pa_cons (pv 0) (pa_cons (pv 1) pa_nil))) pa_nil)) (pe_callB k_repr1 (by rfl) bi.repr bo_repr (pa_cons (pe_cmpR (op_neD hr.units) (pv 3) pe_str (nomark _)) pa_nil)) (nomark _))))).pt (pss_one (ps_ret pe_bl)) pss_nil)
    (pss_cons (ps_if (pt_cmpR (op_neD hr.units) (pe_callB k_repr1 (by rfl) bi.repr bo_repr (pa_cons (pe_cal c_must_pass hr (by rfl) (pa_cons (pv 0) (pa_cons (pv 1) pa_nil))) pa_nil)) (pe_callB k_repr1 (by rfl) bi.repr bo_repr (pa_cons (pe_or (pe_cmpR (op_eqD hr.units) (pv 3) pe_str (nomark _)) (pe_one (pe_cmpR (op_eqD hr.units) (pe_ix ix_8 (pv 1) pe_int (fun _ _ => rfl)) pe_int (nomark _)))) pa_nil)) (nomark _)) (pss_one (ps_ret pe_bl)) pss_nil)
    (pss_cons (ps_if ((pw_or (pt_cmpR (op_neD hr.units) (pe_cal2 d_may_pass hr (by rfl) (pv 1) (pv 0)) (pe_cmpR (op_neD hr.units) (pv 3) pe_str (nomark _)) (nomark _)) (pw_or1 (pt_cmpR (op_neD hr.units) (pe_cal2 d_must_pass hr (by rfl) (pv 1) (pv 0)) (pe_or (pe_cmpR (op_eqD hr.units) (pv 3) pe_str (nomark _)) (pe_one (pe_cmpR (op_eqD hr.units) (pe_ix ix_8 (pv 1) pe_int (fun _ _ => rfl)) pe_int (nomark _)))) (nomark _))))).pt (pss_one (ps_ret pe_bl)) pss_nil)
    (pss_cons (ps_if ((pw_and (pt_cmpR op_gt (pe_ix ix_8 (pv 1) pe_int (fun _ _ => rfl)) pe_int (nomark _)) (pw_and1 (pt_cmpR (op_neD hr.units) (pe_cal c_verdict hr (by rfl) (pa_cons (pe_tup (pa_cons pe_str (pa_cons (pv 0) pa_nil))) (pa_cons (pv 1) pa_nil))) (pe_dget (room1 hr) (pe_disp (pps_cons pe_str pe_str (pps_cons pe_str pe_str (pps_cons pe_str pe_str pps_nil))) (by rfl) (by rfl) (fun z => by cases z) (by decide)) (pv 3) (fun _ _ => rfl)) (nomark _))))).pt (pss_one (ps_ret pe_bl)) pss_nil)
    (pss_cons (ps_for PassesOwn.never (by rfl) (pi_seq8 (pv 2)) (pg_name (i := 4) sc_law_told_right.nd rfl (by first | exact Or.inl rfl | exact Or.inr rfl)) (pss_cons (ps_set (i := 5) sc_law_told_right.nd rfl (Or.inl rfl) (pe_cal c_law_lets hr (by rfl) (pa_cons (pv 0) (pa_cons (pv 4) pa_nil))))
    (pss_one (ps_if ((pw_or (pt_cmpR (op_neD hr.units) (pe_cal c_passes hr (by rfl) (pa_cons (pv 0) (pa_cons (pe_tup (pa_cons pe_int (pa_cons (pe_tup pa_nil) (pa_cons (pv 4) pa_nil)))) pa_nil))) (pv 5) (nomark _)) (pw_or ((pw_and (pt_cmpR (op_eqD hr.units) (pv 3) pe_str (nomark _)) (pw_and1 (pt_val (pv 5))))).pt (pw_or1 ((pw_and (pt_cmpR (op_eqD hr.units) (pv 3) pe_str (nomark _)) (pw_and1 (pt_not (pt_val (pv 5)))))).pt)))).pt (pss_one (ps_ret pe_bl)) pss_nil))))
    (pss_one (ps_ret (pe_cmpR (op_eqD hr.units) (pe_cal2 d_verdict hr (by rfl) (pv 1) (pv 0)) (pv 3) (nomark _))))))))))

abbrev s_law_filter_right : Stmt := topS 33
abbrev N_law_filter_right : List Str := ["_law_heap_here", "_law_sieve_here", "_law_labels_here", "_law_told", "_law_small", "_law_turn", "_law_cut", "_law_mixed_here", "_law_one", "_law_other", "_law_word", "_law_part", "_law_row", "_law_at"]
theorem sc_law_filter_right : FnScope N_law_filter_right ["_law_heap_here", "_law_sieve_here", "_law_labels_here"] (defScope s_law_filter_right) :=
  ⟨rfl, rfl, rfl, by decide +kernel, rfl, by decide +kernel, by decide +kernel⟩
def t_law_filter_right (K : PySem.W.Frag) (S_law_summary S_summary S_verdict S_law_due S_law_told_right S_example_labels S_law_draw S_law_mixed S_joined_summary : S8) : TS :=
  (tSeq (tAsg (tCall (spP S_law_summary) [] E0 (tCons (tVar 2) tNil)) (gName 3))
  (tSeq (tIfS (tTest (tOp (rNeD K) (tCall (spP S_summary) [] E0 (tCons (tCB (rTupOf K) (tCons (tLc (iRng1 (tCons (tCB (rLen8 K) (tCons (tVar 2) tNil)) tNil)) (gName 13) tYes (tTup (tCons (tVar 13) (tCons (tTup tNil) (tCons (tOp (rIx8 K) (tVar 2) (tVar 13)) tNil)))) [13]) tNil)) tNil)) (tVar 3))) (tRet (tC (.bl false))) tNext)
  (tSeq (tAsg (tAndV (tOp (rI0 fun i j => .bl (decide (i ≤ j))) (tOp (rIx8 K) (tVar 3) (tC (.int 0))) (tC (.int 3))) (tCB (rAll K) (tCons (tLc (iSeq8 K (tOp (rIx8 K) (tVar 3) (tC (.int 1)))) (gName 12) tYes (tOp (rI0 fun i j => .bl (decide (i < j))) (tOp (rI0 fun i j => .int (i - j)) (tOp (rIx8 K) (tVar 12) (tC (.int 3))) (tOp (rIx8 K) (tVar 12) (tC (.int 2)))) (tC (.int 4))) [12]) tNil))) (gName 4))
  (tSeq (tIfS (tAnd (L2.tB (tVar 4)) (tTest (tOp (rNeD K) (tCB rRepr1 (tCons (tCall (spP S_verdict) [] E0 (tCons (tVar 1) (tCons (tVar 3) tNil))) tNil)) (tCB rRepr1 (tCons (tCall (spP S_law_due) [] E0 (tCons (tVar 1) (tCons (tVar 3) tNil))) tNil))))) (tRet (tC (.bl false))) tNext)
  (tSeq (tIfS (tOr (tNot (L2.tB (tCall (spP S_law_told_right) [] E0 (tCons (tVar 1) (tCons (tVar 3) (tCons (tVar 2) tNil)))))) (tNot (L2.tB (tCall (spP S_law_told_right) [] E0 (tCons (tVar 1) (tCons (tVar 3) (tCons (tCB (rListOf K) (tCons (tCall (spP S_example_labels) [] E0 (tCons (tVar 3) tNil)) tNil)) tNil))))))) (tRet (tC (.bl false))) tNext)
  (tSeq (tFor (iRng1 (tCons (tC (.int 2)) tNil)) (gName 5) (tSeq (tAsg (tCall (spH S_law_draw) [] E0 (tCons (tVar 0) (tCons (tOp (rI0 fun i j => .int (i + j)) (tCB (rLen8 K) (tCons (tVar 2) tNil)) (tC (.int 1))) tNil))) (gName 6))
  (tSeq (tAsg (tCall (spH S_law_mixed) [] E0 (tCons (tVar 0) (tCons (tVar 2) tNil))) (gName 7))
  (tSeq (tPar 8 9 (tCons (tCall (spP S_law_summary) [] E0 (tCons (L2.tSl (rSlB K) (tVar 7) tNoPart (tPart (tVar 6))) tNil)) (tCons (tCall (spP S_law_summary) [] E0 (tCons (L2.tSl (rSlB K) (tVar 7) (tPart (tVar 6)) tNoPart) tNil)) tNil)))
  (tSeq (tAsg (tCall (spP S_verdict) [] E0 (tCons (tVar 1) (tCons (tCall (spP S_joined_summary) [] E0 (tCons (tVar 8) (tCons (tVar 9) tNil))) tNil))) (gName 10))
  (tFor (iSeq8 K (tLst (tCons (tVar 8) (tCons (tVar 9) tNil)))) (gName 11) (tIfS (tAnd (tTest (tOp (rI0 fun i j => .bl (decide (j < i))) (tOp (rIx8 K) (tVar 11) (tC (.int 0))) (tC (.int 0)))) (tAnd (tTest (tOp (rNeD K) (tVar 10) (tC (.str "some")))) (tTest (tOp (rNeD K) (tCall (spP S_verdict) [] E0 (tCons (tVar 1) (tCons (tVar 11) tNil))) (tVar 10))))) (tRet (tC (.bl false))) tNext)))))))
  (tRet (tC (.bl true)))))))))
def w_law_filter_right (S_law_summary S_summary S_verdict S_law_due S_law_told_right S_example_labels S_law_draw S_law_mixed S_joined_summary : S8) : WS :=
  (wSeq (wAsg (wCall S_law_summary (wCons (wVar 2) wNil)) (wgName 3))
  (wSeq (wIfS (wB (wOp wNeD (wCall S_summary (wCons (wCB wTupOf (wCons (wL (wLc (wRng1 (wCons (wCB wLen (wCons (wVar 2) wNil)) wNil)) (wgName 13) wYes (wTup (wCons (wVar 13) (wCons (wTup wNil) (wCons (wOp wIx (wVar 2) (wVar 13)) wNil)))) [13])) wNil)) wNil)) (wVar 3))) (wRet (wC (.bool false))) wNext)
  (wSeq (wAsg (wAndV (wOp (wI (fun _ _ => True) fun i j => .bool (decide (i ≤ j))) (wOp wIx (wVar 3) (wC (.int 0))) (wC (.int 3))) (wCB wAll (wCons (wL (wLc (wSeq8 (wOp wIx (wVar 3) (wC (.int 1)))) (wgName 12) wYes (wOp (wI (fun _ _ => True) fun i j => .bool (decide (i < j))) (wOp (wI (fun _ _ => True) fun i j => .int (i - j)) (wOp wIx (wVar 12) (wC (.int 3))) (wOp wIx (wVar 12) (wC (.int 2)))) (wC (.int 4))) [12])) wNil))) (wgName 4))
  (wSeq (wIfS (wAnd (wB (wVar 4)) (wB (wOp wNeD (wCB wRepr1 (wCons (wCall S_verdict (wCons (wVar 1) (wCons (wVar 3) wNil))) wNil)) (wCB wRepr1 (wCons (wCall S_law_due (wCons (wVar 1) (wCons (wVar 3) wNil))) wNil))))) (wRet (wC (.bool false))) wNext)
  (wSeq (wIfS (wOr (wNot (wB (wCall S_law_told_right (wCons (wVar 1) (wCons (wVar 3) (wCons (wVar 2) wNil)))))) (wNot (wB (wCall S_law_told_right (wCons (wVar 1) (wCons (wVar 3) (wCons (wCB wListOf (wCons (wCall S_example_labels (wCons (wVar 3) wNil)) wNil)) wNil))))))) (wRet (wC (.bool false))) wNext)
  (wSeq (wFor (wRng1 (wCons (wC (.int 2)) wNil)) (wgName 5) (wSeq (wAsg (wCallH S_law_draw 0 (wCons (wOp (wI (fun _ _ => True) fun i j => .int (i + j)) (wCB wLen (wCons (wVar 2) wNil)) (wC (.int 1))) wNil)) (wgName 6))
  (wSeq (wAsg (wCallH S_law_mixed 0 (wCons (wVar 2) wNil)) (wgName 7))
  (wSeq (wPar 8 9 (wCons (wCall S_law_summary (wCons (wSl (wVar 7) wNoPart (wPart (wVar 6))) wNil)) (wCons (wCall S_law_summary (wCons (wSl (wVar 7) (wPart (wVar 6)) wNoPart) wNil)) wNil)))
  (wSeq (wAsg (wCall S_verdict (wCons (wVar 1) (wCons (wCall S_joined_summary (wCons (wVar 8) (wCons (wVar 9) wNil))) wNil))) (wgName 10))
  (wFor (wSeq8 (wLst (wCons (wVar 8) (wCons (wVar 9) wNil)))) (wgName 11) (wIfS (wAnd (wB (wOp (wI (fun _ _ => True) fun i j => .bool (decide (j < i))) (wOp wIx (wVar 11) (wC (.int 0))) (wC (.int 0)))) (wAnd (wB (wOp wNeD (wVar 10) (wC (.str "some")))) (wB (wOp wNeD (wCall S_verdict (wCons (wVar 1) (wCons (wVar 11) wNil))) (wVar 10))))) (wRet (wC (.bool false))) wNext)))))))
  (wRet (wC (.bool true)))))))))
theorem snd_law_filter_right {K : PySem.W.Frag} {S_law_summary S_summary S_verdict S_law_due S_law_told_right S_example_labels S_law_draw S_law_mixed S_joined_summary : S8} : SndS (t_law_filter_right K S_law_summary S_summary S_verdict S_law_due S_law_told_right S_example_labels S_law_draw S_law_mixed S_joined_summary) (w_law_filter_right S_law_summary S_summary S_verdict S_law_due S_law_told_right S_example_labels S_law_draw S_law_mixed S_joined_summary) :=
  (s_seq (s_asg (snd_call (snd_cons (snd_var 2) snd_nil)) (g_name 3))
  (s_seq (s_if (snd_test (snd_op r_ne (snd_call (snd_cons (snd_cb c_tupOf (snd_cons (snd_L (l_lc (i_rng1 (snd_cons (snd_cb c_len (snd_cons (snd_var 2) snd_nil)) snd_nil)) (g_name 13) (in_name (by decide)) snd_yes (snd_tup (snd_cons (snd_var 13) (snd_cons (snd_tup snd_nil) (snd_cons (snd_op r_ix (snd_var 2) (snd_var 13)) snd_nil)))))) snd_nil)) snd_nil)) (snd_var 3))) (s_ret (snd_bl false)) s_next)
  (s_seq (s_asg (snd_andV (snd_op r_B0 (snd_op r_ix (snd_var 3) (snd_int 0)) (snd_int 3)) (snd_cb c_all (snd_cons (snd_L (l_lc (i_seq (snd_op r_ix (snd_var 3) (snd_int 1))) (g_name 12) (in_name (by decide)) snd_yes (snd_op r_B0 (snd_op r_I0 (snd_op r_ix (snd_var 12) (snd_int 3)) (snd_op r_ix (snd_var 12) (snd_int 2))) (snd_int 4)))) snd_nil))) (g_name 4))
  (s_seq (s_if (snd_and (snd_B (snd_var 4)) (snd_test (snd_op r_ne (snd_cb c_repr1 (snd_cons (snd_call (snd_cons (snd_var 1) (snd_cons (snd_var 3) snd_nil))) snd_nil)) (snd_cb c_repr1 (snd_cons (snd_call (snd_cons (snd_var 1) (snd_cons (snd_var 3) snd_nil))) snd_nil))))) (s_ret (snd_bl false)) s_next)
  (s_seq (s_if (snd_or (snd_not (snd_B (snd_call (snd_cons (snd_var 1) (snd_cons (snd_var 3) (snd_cons (snd_var 2) snd_nil)))))) (snd_not (snd_B (snd_call (snd_cons (snd_var 1) (snd_cons (snd_var 3) (snd_cons (snd_cb c_listOf (snd_cons (snd_call (snd_cons (snd_var 3) snd_nil)) snd_nil)) snd_nil))))))) (s_ret (snd_bl false)) s_next)
  (s_seq (s_for (i_rng1 (snd_cons (snd_int 2) snd_nil)) (g_name 5) (s_seq (s_asg (snd_callH (snd_cons (snd_op r_I0 (snd_cb c_len (snd_cons (snd_var 2) snd_nil)) (snd_int 1)) snd_nil)) (g_name 6))
  (s_seq (s_asg (snd_callH (snd_cons (snd_var 2) snd_nil)) (g_name 7))
  (s_seq (s_par (snd_cons (snd_call (snd_cons (snd_sl (snd_var 7) snd_noPart (snd_part (snd_var 6))) snd_nil)) (snd_cons (snd_call (snd_cons (snd_sl (snd_var 7) (snd_part (snd_var 6)) snd_noPart) snd_nil)) snd_nil)))
  (s_seq (s_asg (snd_call (snd_cons (snd_var 1) (snd_cons (snd_call (snd_cons (snd_var 8) (snd_cons (snd_var 9) snd_nil))) snd_nil))) (g_name 10))
  (s_for (i_seq (snd_lst (snd_cons (snd_var 8) (snd_cons (snd_var 9) snd_nil)))) (g_name 11) (s_if (snd_and (snd_test (snd_op r_B0 (snd_op r_ix (snd_var 11) (snd_int 0)) (snd_int 0))) (snd_and (snd_test (snd_op r_ne (snd_var 10) (snd_str "some"))) (snd_test (snd_op r_ne (snd_call (snd_cons (snd_var 1) (snd_cons (snd_var 11) snd_nil))) (snd_var 10))))) (s_ret (snd_bl false)) s_next)))))))
  (s_ret (snd_bl true))))))))
theorem ok_law_filter_right {P : Program} {w : World} {K : PySem.W.Frag} {mg : Str → Option Value} {base : Heap} {f : Addr} {fd : FuncData} {k : Nat} {S S_law_summary S_summary S_verdict S_law_due S_law_told_right S_example_labels S_law_draw S_law_mixed S_joined_summary : S8}
    (F : Fun K "_law_filter_right" "_law_filter_right" s_law_filter_right f fd) (bi : Bi mg)
    (c_law_summary : Cal P w K mg base "_law_summary" ["_law_labels_here"] k (spP S_law_summary))
    (c_summary : Cal P w K mg base "summary" ["items"] k (spP S_summary))
    (c_verdict : Cal P w K mg base "verdict" ["sieve", "told"] k (spP S_verdict))
    (c_law_due : Cal P w K mg base "_law_due" ["_law_sieve_here", "_law_told"] k (spP S_law_due))
    (c_law_told_right : Cal P w K mg base "_law_told_right" ["_law_sieve_here", "_law_told", "_law_labels_here"] k (spP S_law_told_right))
    (c_example_labels : Cal P w K mg base "example_labels" ["told"] k (spP S_example_labels))
    (c_law_draw : Cal P w K mg base "_law_draw" ["_law_heap_here", "_law_many"] k (spH S_law_draw))
    (c_law_mixed : Cal P w K mg base "_law_mixed" ["_law_heap_here", "_law_some"] k (spH S_law_mixed))
    (c_joined_summary : Cal P w K mg base "joined_summary" ["one", "other"] k (spP S_joined_summary))
    (hlen : ∀ ds P, S ds P → ds.length + 1 = 3)
    (lw : ∀ ds P, S ds P → w_law_filter_right S_law_summary S_summary S_verdict S_law_due S_law_told_right S_example_labels S_law_draw S_law_mixed S_joined_summary { nx := fun _ => P .none, rt := P } (.heap :: dats ds 11)) : FnOk P w K mg base CX0 (k + 1) f fd ["_law_heap_here", "_law_sieve_here", "_law_labels_here"] (spH S) := by
  refine F.ok sc_law_filter_right (len_H hlen) (fun cdv A outer s H vs Q E hr h => ⟨t_law_filter_right K S_law_summary S_summary S_verdict S_law_due S_law_told_right S_example_labels S_law_draw S_law_mixed S_joined_summary, ?_, run_H (N := N_law_filter_right) snd_law_filter_right (fun ds P hS => by have e := hlen ds P hS; rw [show N_law_filter_right.length - (ds.length + 1) = 11 by rw [e] <;> rfl]; exact lw ds P hS) h⟩)
  exact (pss_cons (ps_set (i := 3) sc_law_filter_right.nd rfl (Or.inl rfl) (pe_cal c_law_summary hr (by rfl) (pa_cons (pv 2) pa_nil)))
    (pss_cons (ps_if (pt_cmpR (op_neD hr.units) (pe_cal c_summary hr (by rfl) (pa_cons (pe_callTy k_tuple (by rfl) bi.tuple bo_tuple (pa_cons (pe_lc (own := [("_law_at", 13)]) (wi := (iRng1 (tCons (tCB (rLen8 K) (tCons (tVar 2) tNil)) tNil))) (g := (gName 13)) (tt := tYes) (te := (tTup (tCons (tVar 13) (tCons (tTup tNil) (tCons (tOp (rIx8 K) (tVar 2) (tVar 13)) tNil))))) (by rfl) sc_law_filter_right.nd (pi_range1 (by rfl) bi.range (pa_cons (pe_callB k_len (by rfl) bi.len bo_len (pa_cons (pv 2) pa_nil)) pa_nil)) (blkOk_by (own := [("_law_at", 13)]) (N := N_law_filter_right) (sc := defScope s_law_filter_right) (by decide +kernel)) (fun _ _ _ _ _ => (pg_name (i := 13) sc_law_filter_right.nd rfl (by first | exact Or.inl rfl | exact Or.inr rfl))) (fun _ _ _ _ _ => pts_nil) (fun _ _ _ _ _ => (pe_tup (pa_cons (pv 13) (pa_cons (pe_tup pa_nil) (pa_cons (pe_ix ix_8 (pv 2) (pv 13) (fun _ _ => rfl)) pa_nil)))))) pa_nil)) pa_nil)) (pv 3) (nomark _)) (pss_one (ps_ret pe_bl)) pss_nil)
    (pss_cons (ps_set (i := 4) sc_law_filter_right.nd rfl (Or.inl rfl) (pe_and (pe_cmpR op_le (pe_ix ix_8 (pv 3) pe_int (fun _ _ => rfl)) pe_int (nomark _)) (pe_one (pe_callB (cr_all (by rfl)) (by rfl) bi.all bo_all (pa_cons (pe_lc (own := [("_law_row", 12)]) (wi := (iSeq8 K (tOp (rIx8 K) (tVar 3) (tC (.int 1))))) (g := (gName 12)) (tt := tYes) (te := (tOp (rI0 fun i j => .bl (decide (i < j))) (tOp (rI0 fun i j => .int (i - j)) (tOp (rIx8 K) (tVar 12) (tC (.int 3))) (tOp (rIx8 K) (tVar 12) (tC (.int 2)))) (tC (.int 4)))) (by rfl) sc_law_filter_right.nd (pi_seq8 (pe_ix ix_8 (pv 3) pe_int (fun _ _ => rfl))) (blkOk_by (own := [("_law_row", 12)]) (N := N_law_filter_right) (sc := defScope s_law_filter_right) (by decide +kernel)) (fun _ _ _ _ _ => (pg_name (i := 12) sc_law_filter_right.nd rfl (by first | exact Or.inl rfl | exact Or.inr rfl))) (fun _ _ _ _ _ => pts_nil) (fun _ _ _ _ _ => (pe_cmpR op_lt (pe_op op_sub (pe_ix ix_8 (pv 12) pe_int (fun _ _ => rfl)) (pe_ix ix_8 (pv 12) pe_int (fun _ _ => rfl))) pe_int (nomark _)))) pa_nil)))))
    (pss_cons (ps_if ((pw_and (pt_val (pv 4)) (pw_and1 (pt_cmpR (op_neD hr.units) (pe_callB k_repr1 (by rfl) bi.repr bo_repr (pa_cons (pe_cal c_verdict hr (by rfl) (pa_cons (pv 1) (pa_cons (pv 3) pa_nil))) pa_nil)) (pe_callB k_repr1 (by rfl) bi.repr bo_repr (pa_cons (pe_cal c_law_due hr (by rfl) (pa_cons (pv 1) (pa_cons (pv 3) pa_nil))) pa_nil)) (nomark _))))).pt (pss_one (ps_ret pe_bl)) pss_nil)
    (pss_cons (ps_if ((pw_or (pt_not (pt_val (pe_cal c_law_told_right hr (by rfl) (pa_cons (pv 1) (pa_cons (pv 3) (pa_cons (pv 2) pa_nil)))))) (pw_or1 (pt_not (pt_val (pe_cal c_law_told_right hr (by rfl) (pa_cons (pv 1) (pa_cons (pv 3) (pa_cons (pe_callTy k_list (by rfl) bi.list bo_list (pa_cons (pe_cal c_example_labels hr (by rfl) (pa_cons (pv 3) pa_nil)) pa_nil)) pa_nil))))))))).pt (pss_one (ps_ret pe_bl)) pss_nil)
    (pss_cons (ps_for PassesOwn.never (by rfl) (pi_range1 (by rfl) bi.range (pa_cons pe_int pa_nil)) (pg_name (i := 5) sc_law_filter_right.nd rfl (by first | exact Or.inl rfl | exact Or.inr rfl)) (pss_cons (ps_set (i := 6) sc_law_filter_right.nd rfl (Or.inl rfl) (pe_cal c_law_draw hr (by rfl) (pa_cons (pv 0) (pa_cons (pe_op op_add (pe_callB k_len (by rfl) bi.len bo_len (pa_cons (pv 2) pa_nil)) pe_int) pa_nil))))
    (pss_cons (ps_set (i := 7) sc_law_filter_right.nd rfl (Or.inl rfl) (pe_cal c_law_mixed hr (by rfl) (pa_cons (pv 0) (pa_cons (pv 2) pa_nil))))
    (pss_cons (ps_par (i := 8) (j := 9) (by rfl) sc_law_filter_right.nd rfl rfl (by decide) rfl rfl (pa_cons (pe_cal c_law_summary hr (by rfl) (pa_cons (pe_slice sl_both (pv 7) po_none (po_some (pv 6))) pa_nil)) (pa_cons (pe_cal c_law_summary hr (by rfl) (pa_cons (pe_slice sl_both (pv 7) (po_some (pv 6)) po_none) pa_nil)) pa_nil)) (by rfl))
    (pss_cons (ps_set (i := 10) sc_law_filter_right.nd rfl (Or.inl rfl) (pe_cal c_verdict hr (by rfl) (pa_cons (pv 1) (pa_cons (pe_cal c_joined_summary hr (by rfl) (pa_cons (pv 8) (pa_cons (pv 9) pa_nil))) pa_nil))))
    (pss_one (ps_for PassesOwn.never (by rfl) (pi_seq8 (pe_lst (pa_cons (pv 8) (pa_cons (pv 9) pa_nil)))) (pg_name (i := 11) sc_law_filter_right.nd rfl (by first | exact Or.inl rfl | exact Or.inr rfl)) (pss_one (ps_if ((pw_and (pt_cmpR op_gt (pe_ix ix_8 (pv 11) pe_int (fun _ _ => rfl)) pe_int (nomark _)) (pw_and (pt_cmpR (op_neD hr.units) (pv 10) pe_str (nomark _)) (pw_and1 (pt_cmpR (op_neD hr.units) (pe_cal c_verdict hr (by rfl) (pa_cons (pv 1) (pa_cons (pv 11) pa_nil))) (pv 10) (nomark _)))))).pt (pss_one (ps_ret pe_bl)) pss_nil)))))))))
    (pss_one (ps_ret pe_bl))))))))

end D8
namespace D8
open PySem PySem.Spec PyProof.Rows L2
abbrev s_joined_summary : Stmt := topS 4
abbrev N_joined_summary : List Str := ["one", "other", "row", "rows", "name"]
theorem sc_joined_summary : FnScope N_joined_summary ["one", "other"] (defScope s_joined_summary) :=
  ⟨rfl, rfl, rfl, by decide +kernel, rfl, by decide +kernel, by decide +kernel⟩
def t_joined_summary (K : PySem.W.Frag) (S_row_joined : S8) : TS :=
  (tSeq (tAsg (tDc (iSeq8 K (tOp (rIx8 K) (tVar 0) (tC (.int 1)))) (gName 2) tYes (tOp (rIx8 K) (tVar 2) (tC (.int 0))) (tVar 2) [2]) (gName 3))
  (tSeq (tFor (iSeq8 K (tOp (rIx8 K) (tVar 1) (tC (.int 1)))) (gName 2) (sDPut (tVar 3) (tOp (rIx8 K) (tVar 2) (tC (.int 0))) (tIf (L2.tB (tDIn (tOp (rIx8 K) (tVar 2) (tC (.int 0))) (tVar 3))) (tCall (spP S_row_joined) [] E0 (tCons (tDGet (tVar 3) (tOp (rIx8 K) (tVar 2) (tC (.int 0)))) (tCons (tVar 2) tNil))) (tVar 2))))
  (tRet (tTup (tCons (tOp (rI0 fun i j => .int (i + j)) (tOp (rIx8 K) (tVar 0) (tC (.int 0))) (tOp (rIx8 K) (tVar 1) (tC (.int 0)))) (tCons (tCB (rTupOf K) (tCons (tLc (iSeq8 K (tCB rSortD (tCons (tVar 3) tNil))) (gName 4) tYes (tDGet (tVar 3) (tVar 4)) [4]) tNil)) tNil))))))
def w_joined_summary (S_row_joined : S8) : WS :=
  (wSeq (wOwnD (wDc (wSeq8 (wOp wIx (wVar 0) (wC (.int 1)))) (wgName 2) (wOp wIx (wVar 2) (wC (.int 0))) (wVar 2) [2]) 3)
  (wSeq (wFor (wSeq8 (wOp wIx (wVar 1) (wC (.int 1)))) (wgName 2) (wDPut 3 (wOp wIx (wVar 2) (wC (.int 0))) (wIfE (wB (wDIn 3 (wOp wIx (wVar 2) (wC (.int 0))))) (wCall S_row_joined (wCons (wDGet 3 (wOp wIx (wVar 2) (wC (.int 0)))) (wCons (wVar 2) wNil))) (wVar 2))))
  (wRet (wTup (wCons (wOp (wI (fun _ _ => True) fun i j => .int (i + j)) (wOp wIx (wVar 0) (wC (.int 0))) (wOp wIx (wVar 1) (wC (.int 0)))) (wCons (wCB wTupOf (wCons (wL (wLc (wSeq8 (wSortD 3)) (wgName 4) wYes (wDGet 3 (wVar 4)) [4])) wNil)) wNil))))))
theorem snd_joined_summary {K : PySem.W.Frag} {S_row_joined : S8} : SndS (t_joined_summary K S_row_joined) (w_joined_summary S_row_joined) :=
  (s_seq (s_dc (i_seq (snd_op r_ix (snd_var 0) (snd_int 1))) (g_name 2) (in_name (by decide)) (snd_op r_ix (snd_var 2) (snd_int 0)) (snd_var 2))
  (s_seq (s_for (i_seq (snd_op r_ix (snd_var 1) (snd_int 1))) (g_name 2) (s_dput (snd_op r_ix (snd_var 2) (snd_int 0)) (snd_ifE (snd_B (snd_din (snd_op r_ix (snd_var 2) (snd_int 0)))) (snd_call (snd_cons (snd_dget (snd_op r_ix (snd_var 2) (snd_int 0))) (snd_cons (snd_var 2) snd_nil))) (snd_var 2))))
  (s_ret (snd_tup (snd_cons (snd_op r_I0 (snd_op r_ix (snd_var 0) (snd_int 0)) (snd_op r_ix (snd_var 1) (snd_int 0))) (snd_cons (snd_cb c_tupOf (snd_cons (snd_L (l_lc (i_seq snd_sortD) (g_name 4) (in_name (by decide)) snd_yes (snd_dget (snd_var 4)))) snd_nil)) snd_nil))))))
theorem ok_joined_summary {P : Program} {w : World} {K : PySem.W.Frag} {mg : Str → Option Value} {base : Heap} {f : Addr} {fd : FuncData} {k : Nat} {S S_row_joined : S8}
    (F : Fun K "joined_summary" "joined_summary" s_joined_summary f fd) (bi : Bi mg)
    (c_row_joined : Cal P w K mg base "row_joined" ["one", "other"] k (spP S_row_joined))
    (hlen : ∀ ds P, S ds P → ds.length = 2)
    (lw : ∀ ds P, S ds P → w_joined_summary S_row_joined { nx := fun _ => P .none, rt := P } (dats ds 3)) : FnOk P w K mg base CX0 (k + 1) f fd ["one", "other"] (spP S) := by
  refine F.ok sc_joined_summary (len_P hlen) (fun cdv A outer s H vs Q E hr h => ⟨t_joined_summary K S_row_joined, ?_, run_P (N := N_joined_summary) snd_joined_summary (fun ds P hS => by have e := hlen ds P hS; rw [show N_joined_summary.length - (ds.length) = 3 by rw [e] <;> rfl]; exact lw ds P hS) h⟩)
  exact (pss_cons (ps_set (i := 3) sc_joined_summary.nd rfl (Or.inr rfl) (pe_dc (own := [("row", 2)]) (wi := (iSeq8 K (tOp (rIx8 K) (tVar 0) (tC (.int 1))))) (g := (gName 2)) (tt := tYes) (tk := (tOp (rIx8 K) (tVar 2) (tC (.int 0)))) (tv := (tVar 2)) (by rfl) sc_joined_summary.nd (pi_seq8 (pe_ix ix_8 (pv 0) pe_int (fun _ _ => rfl))) (blkOk_by (own := [("row", 2)]) (N := N_joined_summary) (sc := defScope s_joined_summary) (by decide +kernel)) (fun _ _ _ _ _ => (pg_name (i := 2) sc_joined_summary.nd rfl (by first | exact Or.inl rfl | exact Or.inr rfl))) (fun _ _ _ _ _ => pts_nil) (fun _ _ _ _ _ => (pe_ix ix_8 (pv 2) pe_int (fun _ _ => rfl))) (fun _ _ _ _ _ => (pv 2))))
    (pss_cons (ps_for PassesOwn.never (by rfl) (pi_seq8 (pe_ix ix_8 (pv 1) pe_int (fun _ _ => rfl))) (pg_name (i := 2) sc_joined_summary.nd rfl (by first | exact Or.inl rfl | exact Or.inr rfl)) (pss_one (ps_dput (room1 hr) (pv 3) (pe_ix ix_8 (pv 2) pe_int (fun _ _ => rfl)) (pe_ifExp (pt_cmp (pc_din (room1 hr) (pe_ix ix_8 (pv 2) pe_int (fun _ _ => rfl)) (pv 3))) (pe_cal c_row_joined hr (by rfl) (pa_cons (pe_dget (room1 hr) (pv 3) (pe_ix ix_8 (pv 2) pe_int (fun _ _ => rfl)) (fun _ _ => rfl)) (pa_cons (pv 2) pa_nil))) (pv 2)) (by rfl))))
    (pss_one (ps_ret (pe_tup (pa_cons (pe_op op_add (pe_ix ix_8 (pv 0) pe_int (fun _ _ => rfl)) (pe_ix ix_8 (pv 1) pe_int (fun _ _ => rfl))) (pa_cons (pe_callTy k_tuple (by rfl) bi.tuple bo_tuple (pa_cons (pe_lc (own := [("name", 4)]) (wi := (iSeq8 K (tCB rSortD (tCons (tVar 3) tNil)))) (g := (gName 4)) (tt := tYes) (te := (tDGet (tVar 3) (tVar 4))) (by rfl) sc_joined_summary.nd (pi_seq8 (pe_callB (k_sortD (by rfl)) (by rfl) bi.sorted bo_sorted (pa_cons (pv 3) pa_nil))) (blkOk_by (own := [("name", 4)]) (N := N_joined_summary) (sc := defScope s_joined_summary) (by decide +kernel)) (fun _ _ _ _ _ => (pg_name (i := 4) sc_joined_summary.nd rfl (by first | exact Or.inl rfl | exact Or.inr rfl))) (fun _ _ _ _ _ => pts_nil) (fun _ _ _ _ _ => (pe_dget (room1 hr) (pv 3) (pv 4) (fun _ _ => rfl)))) pa_nil)) pa_nil)))))))

end D8
namespace D8
open PySem PySem.Spec PyProof.Rows L2
abbrev s_law_heap : Stmt := topS 18
abbrev N_law_heap : List Str := ["_law_script", "_law_cell", "_law_cells", "_law_stir"]
theorem sc_law_heap : FnScope N_law_heap ["_law_script"] (defScope s_law_heap) :=
  ⟨rfl, rfl, rfl, by decide +kernel, rfl, by decide +kernel, by decide +kernel⟩
def t_law_heap (K : PySem.W.Frag) : TS :=
  (tSeq (tPar 2 3 (tCons (tLc (iSeq8 K (L2.tSl (rSlB K) (tVar 0) tNoPart (tPart (tC (.int 60))))) (gName 1) tYes (tCB (fun xs H Q => ∃ i, xs = [.int i] ∧ Q (.int (if i < 0 then -i else i)) H) (tCons (tVar 1) tNil)) [1]) (tCons (tC (.int 26681)) tNil)))
  (tSeq (tFor (iSeq8 K (tVar 2)) (gName 1) (tAsg (tOp (rI (fun _ j => 0 < j) fun i j => .int (i % j)) (tCB rInt8 (tCons (tOp (rI0 fun i j => .int (i + j)) (tOp (rI0 fun i j => .int (i + j)) (tOp (rI CMul fun i j => .int (i * j)) (tVar 3) (tC (.int 48271))) (tOp (rI (fun _ j => 0 < j) fun i j => .int (i % j)) (tCB rInt8 (tCons (tVar 1) tNil)) (tC (.int 2147483563)))) (tC (.int 97))) tNil)) (tC (.int 2147483647))) (gName 3)))
  (tRet (tLst (tCons (tRevL K (tLc (iSeq8 K (tVar 2)) (gName 1) (tTest (tOp (rI0 fun i j => .bl (decide (j ≤ i))) (tVar 1) (tOp (rI CPow fun i j => .int (i ^ j.toNat)) (tC (.int 10)) (tC (.int 18))))) (tVar 1) [1])) (tCons (tVar 3) tNil))))))
theorem ok_law_heap {P : Program} {w : World} {K : PySem.W.Frag} {mg : Str → Option Value} {base : Heap} {f : Addr} {fd : FuncData} {k : Nat} {sp : Sp}
    (F : Fun K "_law_heap" "_law_heap" s_law_heap f fd) (bi : Bi mg)
    (hlen : ∀ vs H Q E, sp vs H Q E → vs.length = 1)
    (hb : ∀ vs H Q E, sp vs H Q E → t_law_heap K { nx := fun _ H' => Q .non H', rt := Q } (L2.start N_law_heap vs) H) : FnOk P w K mg base CX0 (k + 1) f fd ["_law_script"] sp := by
  refine F.ok sc_law_heap hlen (fun cdv A outer s H vs Q E hr h => ⟨t_law_heap K, ?_, hb vs H Q E h⟩)
  exact (pss_cons (ps_par (i := 2) (j := 3) (by rfl) sc_law_heap.nd rfl rfl (by decide) rfl rfl (pa_cons (pe_lc (own := [("_law_cell", 1)]) (wi := (iSeq8 K (L2.tSl (rSlB K) (tVar 0) tNoPart (tPart (tC (.int 60)))))) (g := (gName 1)) (tt := tYes) (te := (tCB (fun xs H Q => ∃ i, xs = [.int i] ∧ Q (.int (if i < 0 then -i else i)) H) (tCons (tVar 1) tNil))) (by rfl) sc_law_heap.nd (pi_seq8 (pe_slice sl_both (pv 0) po_none (po_some pe_int))) (blkOk_by (own := [("_law_cell", 1)]) (N := N_law_heap) (sc := defScope s_law_heap) (by decide +kernel)) (fun _ _ _ _ _ => (pg_name (i := 1) sc_law_heap.nd rfl (by first | exact Or.inl rfl | exact Or.inr rfl))) (fun _ _ _ _ _ => pts_nil) (fun _ _ _ _ _ => (pe_callB call_abs (by rfl) bi.abs bo_abs (pa_cons (pv 1) pa_nil)))) (pa_cons pe_int pa_nil)) (by rfl))
    (pss_cons (ps_for PassesOwn.never (by rfl) (pi_seq8 (pv 2)) (pg_name (i := 1) sc_law_heap.nd rfl (by first | exact Or.inl rfl | exact Or.inr rfl)) (pss_one (ps_set (i := 3) sc_law_heap.nd rfl (Or.inl rfl) (pe_op op_mod (pe_callTy k_int (by rfl) bi.int bo_int (pa_cons (pe_op op_add (pe_op op_add (pe_op op_mul (pv 3) pe_int) (pe_op op_mod (pe_callTy k_int (by rfl) bi.int bo_int (pa_cons (pv 1) pa_nil)) pe_int)) pe_int) pa_nil)) pe_int))))
    (pss_one (ps_ret (pe_lst (pa_cons (pe_revL (pe_lc (own := [("_law_cell", 1)]) (wi := (iSeq8 K (tVar 2))) (g := (gName 1)) (tt := (tTest (tOp (rI0 fun i j => .bl (decide (j ≤ i))) (tVar 1) (tOp (rI CPow fun i j => .int (i ^ j.toNat)) (tC (.int 10)) (tC (.int 18)))))) (te := (tVar 1)) (by rfl) sc_law_heap.nd (pi_seq8 (pv 2)) (blkOk_by (own := [("_law_cell", 1)]) (N := N_law_heap) (sc := defScope s_law_heap) (by decide +kernel)) (fun _ _ _ _ _ => (pg_name (i := 1) sc_law_heap.nd rfl (by first | exact Or.inl rfl | exact Or.inr rfl))) (fun _ _ _ _ _ => (pts_one (pt_cmpR op_ge (pv 1) (pe_op op_pow pe_int pe_int) (nomark _)))) (fun _ _ _ _ _ => (pv 1)))) (pa_cons (pv 3) pa_nil)))))))

abbrev s_law_draw : Stmt := topS 19
abbrev N_law_draw : List Str := ["_law_heap_here", "_law_many", "_law_rest"]
theorem sc_law_draw : FnScope N_law_draw ["_law_heap_here", "_law_many"] (defScope s_law_draw) :=
  ⟨rfl, rfl, rfl, by decide +kernel, rfl, by decide +kernel, by decide +kernel⟩
def t_law_draw (K : PySem.W.Frag) : TS :=
  (tSeq (tWhile (tAnd (tTest (tOp (rNeD K) (tOp (rIx8 K) (tVar 0) (tC (.int 0))) (tLst tNil))) (tTest (tOp (rEqD K) (tOp (rIx8 K) (tOp (rIx8 K) (tVar 0) (tC (.int 0))) (tUn (rU fun i => .int (-i)) (tC (.int 1)))) (tC (.int 0))))) (tDrop (tBM0 K "list" rPop (tOp (rIx8 K) (tVar 0) (tC (.int 0))))))
  (tSeq (tIfS (tTest (tOp (rNeD K) (tOp (rIx8 K) (tVar 0) (tC (.int 0))) (tLst tNil))) (tSeq (tAsg (tBM0 K "list" rPop (tOp (rIx8 K) (tVar 0) (tC (.int 0)))) (gName 2))
  (tSeq (tDrop (tBM K "list" rAppend (tOp (rIx8 K) (tVar 0) (tC (.int 0))) (tCons (tOp (rI CDiv fun i j => .int (i / j)) (tVar 2) (tVar 1)) tNil)))
  (tRet (tOp (rI (fun _ j => 0 < j) fun i j => .int (i % j)) (tCB rInt8 (tCons (tVar 2) tNil)) (tVar 1))))) tNext)
  (tSeq (tAsg (tOp (rI (fun _ j => 0 < j) fun i j => .int (i % j)) (tCB rInt8 (tCons (tOp (rI0 fun i j => .int (i + j)) (tOp (rI CMul fun i j => .int (i * j)) (tOp (rIx8 K) (tVar 0) (tC (.int 1))) (tC (.int 48271))) (tC (.int 11))) tNil)) (tC (.int 2147483647))) (gSub (tVar 0) (tC (.int 1)) rSetL))
  (tRet (tOp (rI (fun _ j => 0 < j) fun i j => .int (i % j)) (tCB rInt8 (tCons (tOp (rI CDiv fun i j => .int (i / j)) (tOp (rIx8 K) (tVar 0) (tC (.int 1))) (tC (.int 64))) tNil)) (tVar 1))))))
theorem ok_law_draw {P : Program} {w : World} {K : PySem.W.Frag} {mg : Str → Option Value} {base : Heap} {f : Addr} {fd : FuncData} {k : Nat} {sp : Sp}
    (F : Fun K "_law_draw" "_law_draw" s_law_draw f fd) (bi : Bi mg)
    (hlen : ∀ vs H Q E, sp vs H Q E → vs.length = 2)
    (hb : ∀ vs H Q E, sp vs H Q E → t_law_draw K { nx := fun _ H' => Q .non H', rt := Q } (L2.start N_law_draw vs) H) : FnOk P w K mg base CX0 (k + 1) f fd ["_law_heap_here", "_law_many"] sp := by
  refine F.ok sc_law_draw hlen (fun cdv A outer s H vs Q E hr h => ⟨t_law_draw K, ?_, hb vs H Q E h⟩)
  exact (pss_cons (ps_while PassesOwn.never ((pw_and (pt_cmpR (op_neD hr.units) (pe_ix ix_8 (pv 0) pe_int (fun _ _ => rfl)) (pe_lst pa_nil) (nomark _)) (pw_and1 (pt_cmpR (op_eqD hr.units) (pe_ix ix_8 (pe_ix ix_8 (pv 0) pe_int (fun _ _ => rfl)) (pe_un un_neg pe_int) (fun _ _ => rfl)) pe_int (nomark _))))).pt (pss_one (ps_expr (pe_bm0 PySem.F.plainAttrs_list PySem.F.slot_list_pop PySem.F.type_list_pop mt_pop (pe_ix ix_8 (pv 0) pe_int (fun _ _ => rfl))))))
    (pss_cons (ps_if (pt_cmpR (op_neD hr.units) (pe_ix ix_8 (pv 0) pe_int (fun _ _ => rfl)) (pe_lst pa_nil) (nomark _)) (pss_cons (ps_set (i := 2) sc_law_draw.nd rfl (Or.inl rfl) (pe_bm0 PySem.F.plainAttrs_list PySem.F.slot_list_pop PySem.F.type_list_pop mt_pop (pe_ix ix_8 (pv 0) pe_int (fun _ _ => rfl))))
    (pss_cons (ps_expr (pe_bm PySem.F.plainAttrs_list PySem.F.slot_list_append PySem.F.type_list_append mt_append (pe_ix ix_8 (pv 0) pe_int (fun _ _ => rfl)) (pa_cons (pe_op op_fdiv (pv 2) (pv 1)) pa_nil)))
    (pss_one (ps_ret (pe_op op_mod (pe_callTy k_int (by rfl) bi.int bo_int (pa_cons (pv 2) pa_nil)) (pv 1)))))) pss_nil)
    (pss_cons (ps_asg (pe_op op_mod (pe_callTy k_int (by rfl) bi.int bo_int (pa_cons (pe_op op_add (pe_op op_mul (pe_ix ix_8 (pv 0) pe_int (fun _ _ => rfl)) pe_int) pe_int) pa_nil)) pe_int) (pg_sub (pv 0) pe_int set_list))
    (pss_one (ps_ret (pe_op op_mod (pe_callTy k_int (by rfl) bi.int bo_int (pa_cons (pe_op op_fdiv (pe_ix ix_8 (pv 0) pe_int (fun _ _ => rfl)) pe_int) pa_nil)) (pv 1)))))))

abbrev s_law_mixed : Stmt := topS 21
abbrev N_law_mixed : List Str := ["_law_heap_here", "_law_some", "_law_left", "_law_found"]
theorem sc_law_mixed : FnScope N_law_mixed ["_law_heap_here", "_law_some"] (defScope s_law_mixed) :=
  ⟨rfl, rfl, rfl, by decide +kernel, rfl, by decide +kernel, by decide +kernel⟩
def t_law_mixed (K : PySem.W.Frag) (S_law_draw : S8) : TS :=
  (tSeq (tPar 2 3 (tCons (L2.tSl (rSlB K) (tVar 1) tNoPart tNoPart) (tCons (tLst tNil) tNil)))
  (tSeq (tWhile (tTest (tOp (rNeD K) (tVar 2) (tLst tNil))) (tDrop (tBM K "list" rAppend (tVar 3) (tCons (tBM K "list" rPopAt (tVar 2) (tCons (tCall (spH S_law_draw) [] E0 (tCons (tVar 0) (tCons (tCB (rLen8 K) (tCons (tVar 2) tNil)) tNil))) tNil)) tNil))))
  (tRet (tVar 3))))
theorem ok_law_mixed {P : Program} {w : World} {K : PySem.W.Frag} {mg : Str → Option Value} {base : Heap} {f : Addr} {fd : FuncData} {k : Nat} {S_law_draw : S8} {sp : Sp}
    (F : Fun K "_law_mixed" "_law_mixed" s_law_mixed f fd) (bi : Bi mg)
    (c_law_draw : Cal P w K mg base "_law_draw" ["_law_heap_here", "_law_many"] k (spH S_law_draw))
    (hlen : ∀ vs H Q E, sp vs H Q E → vs.length = 2)
    (hb : ∀ vs H Q E, sp vs H Q E → t_law_mixed K S_law_draw { nx := fun _ H' => Q .non H', rt := Q } (L2.start N_law_mixed vs) H) : FnOk P w K mg base CX0 (k + 1) f fd ["_law_heap_here", "_law_some"] sp := by
  refine F.ok sc_law_mixed hlen (fun cdv A outer s H vs Q E hr h => ⟨t_law_mixed K S_law_draw, ?_, hb vs H Q E h⟩)
  exact (pss_cons (ps_par (i := 2) (j := 3) (by rfl) sc_law_mixed.nd rfl rfl (by decide) rfl rfl (pa_cons (pe_slice sl_both (pv 1) po_none po_none) (pa_cons (pe_lst pa_nil) pa_nil)) (by rfl))
    (pss_cons (ps_while PassesOwn.never (pt_cmpR (op_neD hr.units) (pv 2) (pe_lst pa_nil) (nomark _)) (pss_one (ps_expr (pe_bm PySem.F.plainAttrs_list PySem.F.slot_list_append PySem.F.type_list_append mt_append (pv 3) (pa_cons (pe_bm PySem.F.plainAttrs_list PySem.F.slot_list_pop PySem.F.type_list_pop mt_popAt (pv 2) (pa_cons (pe_cal c_law_draw hr (by rfl) (pa_cons (pv 0) (pa_cons (pe_callB k_len (by rfl) bi.len bo_len (pa_cons (pv 2) pa_nil)) pa_nil))) pa_nil)) pa_nil)))))
    (pss_one (ps_ret (pv 3)))))

end D8
namespace D8
open PySem PySem.Spec PyProof.Rows L2

/-! ### loops and comprehensions over coded lists -/
theorem for_find {α : Type} {wg : WG} {wb : WS} {E : We8} {ρ : List Sl} (xs : List α) (enc : α → PyData) (J : List Sl → Prop) (g : α → Option PyData) (h0 : J ρ)
    (hs : ∀ x ρ' (N : List Sl → Prop), x ∈ xs → J ρ' → (∀ r, g x = some r → E.rt r) → (∀ ρ3, J ρ3 → g x = none → N ρ3) → wg (enc x) ρ' fun ρ2 => wb { nx := N, rt := E.rt, bk := E.nx, ct := N } ρ2)
    (he : ∀ r, xs.findSome? g = some r → E.rt r) (hn : xs.findSome? g = none → ∀ ρ', J ρ' → E.nx ρ') :
    ∃ Iv : Nat → List Sl → Prop, Iv 0 ρ ∧ (∀ i d ρ', (xs.map enc)[i]? = some d → Iv i ρ' → wg d ρ' fun ρ2 => wb { nx := Iv (i + 1), rt := E.rt, bk := E.nx, ct := Iv (i + 1) } ρ2) ∧ ∀ ρ', Iv (xs.map enc).length ρ' → E.nx ρ' := by
  refine ⟨fun i ρ' => J ρ' ∧ (xs.take i).findSome? g = none, ⟨h0, rfl⟩, fun i d ρ' hd ⟨hJ, hnone⟩ => ?_, fun ρ' ⟨hJ, hnone⟩ => ?_⟩
  · rw [List.getElem?_map] at hd
    obtain ⟨x, h1, h2⟩ := Option.map_eq_some_iff.mp hd
    subst h2
    obtain ⟨hi, hx⟩ := List.getElem?_eq_some_iff.mp h1
    have et : xs.take (i + 1) = xs.take i ++ [x] := by rw [List.take_add_one, h1] <;> rfl
    refine hs x ρ' _ (List.mem_of_getElem? h1) hJ (fun r hr => he r ?_) fun ρ3 h3 h4 => ⟨h3, ?_⟩
    · have e2 : xs = xs.take i ++ (x :: xs.drop (i + 1)) := by
        have := List.take_append_drop i xs
        rw [List.drop_eq_getElem_cons hi, hx] at this
        exact this.symm
      rw [e2, List.findSome?_append, hnone, List.findSome?_cons, hr] <;> rfl
    · rw [et, List.findSome?_append, hnone, List.findSome?_cons, h4] <;> rfl
  · rw [List.length_map, List.take_length] at hnone
    exact hn hnone ρ' hJ
theorem lc_map {α : Type} {wg : WG} {wt : WT} {we : WE} {vs : List Nat} {ρ : List Sl} {P : List PyData → Prop} (xs : List α) (enc : α → PyData) (p : α → Bool) (f : α → PyData)
    (hs : ∀ x (Y : PyData → Prop) (N : Prop), x ∈ xs → (p x = true → Y (f x)) → (p x = false → N) → wg (enc x) ρ fun ρ2 => wipeR ρ2 vs = ρ ∧ wt ρ2 fun b => (b = true → we ρ2 Y) ∧ (b = false → N)) (hd : P ((xs.filter p).map f)) :
    ∃ Iv : Nat → List PyData → Prop, Iv 0 [] ∧ (∀ i acc d, (xs.map enc)[i]? = some d → Iv i acc → wg d ρ fun ρ2 => wipeR ρ2 vs = ρ ∧ wt ρ2 fun b => (b = true → we ρ2 fun y => Iv (i + 1) (acc ++ [y])) ∧ (b = false → Iv (i + 1) acc)) ∧
      ∀ acc, Iv (xs.map enc).length acc → P acc := by
  refine ⟨fun i acc => acc = ((xs.take i).filter p).map f, rfl, fun i acc d hd ha => ?_, fun acc ha => ?_⟩
  · rw [List.getElem?_map] at hd
    obtain ⟨x, h1, h2⟩ := Option.map_eq_some_iff.mp hd
    subst h2
    have et : xs.take (i + 1) = xs.take i ++ [x] := by rw [List.take_add_one, h1] <;> rfl
    refine hs x _ _ (List.mem_of_getElem? h1) (fun hp => ?_) fun hp => ?_
    · show acc ++ [f x] = ((xs.take (i + 1)).filter p).map f
      rw [et, List.filter_append, List.map_append, ha, List.filter_cons, if_pos hp] <;> rfl
    · show acc = ((xs.take (i + 1)).filter p).map f
      rw [et, List.filter_append, List.map_append, ha, List.filter_cons, if_neg (by rw [hp]; exact Bool.false_ne_true)]
      simp
  · rw [List.length_map, List.take_length] at ha
    rw [ha]; exact hd
/-- without a test -/
theorem lc_map1 {α : Type} {wg : WG} {we : WE} {vs : List Nat} {ρ : List Sl} {P : List PyData → Prop} (xs : List α) (enc : α → PyData) (f : α → PyData)
    (hs : ∀ x (Y : PyData → Prop), x ∈ xs → Y (f x) → wg (enc x) ρ fun ρ2 => wipeR ρ2 vs = ρ ∧ we ρ2 Y) (hd : P (xs.map f))
    (hw : ∀ d (A B : List Sl → Prop), (∀ ρ, A ρ → B ρ) → wg d ρ A → wg d ρ B) :
    ∃ Iv : Nat → List PyData → Prop, Iv 0 [] ∧ (∀ i acc d, (xs.map enc)[i]? = some d → Iv i acc → wg d ρ fun ρ2 => wipeR ρ2 vs = ρ ∧ wYes ρ2 fun b => (b = true → we ρ2 fun y => Iv (i + 1) (acc ++ [y])) ∧ (b = false → Iv (i + 1) acc)) ∧
      ∀ acc, Iv (xs.map enc).length acc → P acc := by
  refine lc_map xs enc (fun _ => true) f (fun x Y N hx h1 h2 => ?_) (by rw [List.filter_eq_self.mpr fun _ _ => rfl]; exact hd)
  exact hw _ _ _ (fun ρ2 ⟨a, b⟩ => ⟨a, fun _ => b, fun z => nomatch z⟩) (hs x Y hx (h1 rfl))
theorem mono_name {i : Nat} {ρ : List Sl} (d : PyData) (A B : List Sl → Prop) (h : ∀ ρ, A ρ → B ρ) : wgName i d ρ A → wgName i d ρ B := fun q => h _ q
/-- a run of turns that may end in many ways -/
theorem lc_any {α : Type} {wg : WG} {wt : WT} {we : WE} {vs : List Nat} {ρ : List Sl} {P : List PyData → Prop} (xs : List α) (enc : α → PyData) (Iv : Nat → List PyData → Prop) (h0 : Iv 0 [])
    (hs : ∀ i x acc, xs[i]? = some x → Iv i acc → wg (enc x) ρ fun ρ2 => wipeR ρ2 vs = ρ ∧ wt ρ2 fun b => (b = true → we ρ2 fun y => Iv (i + 1) (acc ++ [y])) ∧ (b = false → Iv (i + 1) acc)) (hd : ∀ acc, Iv xs.length acc → P acc) :
    ∃ Iv : Nat → List PyData → Prop, Iv 0 [] ∧ (∀ i acc d, (xs.map enc)[i]? = some d → Iv i acc → wg d ρ fun ρ2 => wipeR ρ2 vs = ρ ∧ wt ρ2 fun b => (b = true → we ρ2 fun y => Iv (i + 1) (acc ++ [y])) ∧ (b = false → Iv (i + 1) acc)) ∧
      ∀ acc, Iv (xs.map enc).length acc → P acc := by
  refine ⟨Iv, h0, fun i acc d hd' ha => ?_, fun acc ha => hd acc (by rw [List.length_map] at ha; exact ha)⟩
  rw [List.getElem?_map] at hd'
  obtain ⟨x, h1, h2⟩ := Option.map_eq_some_iff.mp hd'
  subst h2
  exact hs i x acc h1 ha
/-! ### small facts of data -/
theorem eqv_str (x y : Str) : PyData.eqv (.str x) (.str y) = (x == y) := by simp only [PyData.eqv]
theorem eqv_int (x y : Int) : PyData.eqv (.int x) (.int y) = (x == y) := by simp only [PyData.eqv]
theorem eqv_bool (x y : Bool) : PyData.eqv (.bool x) (.bool y) = (x == y) := by simp only [PyData.eqv]
abbrev sok (x : Str) : Prop := PyData.strOk x = true
theorem shaped_of {d : PyData} (h1 : d.canLay0 = true) (h2 : d.depth ≤ 64) : SeqAt.shaped d = true := Bool.and_eq_true_iff.mpr ⟨h1, decide_eq_true h2⟩
theorem shaped_str {x : Str} (h : sok x) : SeqAt.shaped (.str x) = true := shaped_of (by simp only [PyData.canLay0]; exact h) (by simp only [PyData.depth]; omega)
theorem shaped_int (x : Int) : SeqAt.shaped (.int x) = true := shaped_of (by simp only [PyData.canLay0]) (by simp only [PyData.depth]; omega)
theorem shaped_bool (x : Bool) : SeqAt.shaped (.bool x) = true := shaped_of (by simp only [PyData.canLay0]) (by simp only [PyData.depth]; omega)
theorem canLay_strs : ∀ xs : List Str, (∀ x ∈ xs, sok x) → PyData.canLayAll0 (xs.map .str) = true
  | [], _ => by simp only [List.map_nil, PyData.canLayAll0]
  | x :: xs, h => by
    simp only [List.map_cons, PyData.canLayAll0, PyData.canLay0, Bool.and_eq_true]
    exact ⟨h x List.mem_cons_self, canLay_strs xs fun y hy => h y (List.mem_cons_of_mem _ hy)⟩
theorem canLay_bools : ∀ xs : List Bool, PyData.canLayAll0 (xs.map .bool) = true
  | [] => by simp only [List.map_nil, PyData.canLayAll0]
  | x :: xs => by
    simp only [List.map_cons, PyData.canLayAll0, PyData.canLay0, Bool.and_eq_true]
    exact ⟨trivial, canLay_bools xs⟩
theorem depth_strs : ∀ xs : List Str, PyData.depthAll (xs.map .str) ≤ 1
  | [] => by simp only [List.map_nil, PyData.depthAll]; omega
  | x :: xs => by
    have := depth_strs xs
    simp only [List.map_cons, PyData.depthAll, PyData.depth]
    exact Nat.max_le.mpr ⟨by omega, by omega⟩
theorem depth_bools : ∀ xs : List Bool, PyData.depthAll (xs.map .bool) ≤ 1
  | [] => by simp only [List.map_nil, PyData.depthAll]; omega
  | x :: xs => by
    have := depth_bools xs
    simp only [List.map_cons, PyData.depthAll, PyData.depth]
    exact Nat.max_le.mpr ⟨by omega, by omega⟩
theorem shaped_strs {xs : List Str} (h : ∀ x ∈ xs, sok x) : SeqAt.shaped (.list (xs.map .str)) = true := shaped_of (by simp only [PyData.canLay0]; exact canLay_strs xs h) (by have := depth_strs xs; simp only [PyData.depth]; omega)
theorem shaped_bools (xs : List Bool) : SeqAt.shaped (.list (xs.map .bool)) = true := shaped_of (by simp only [PyData.canLay0]; exact canLay_bools xs) (by have := depth_bools xs; simp only [PyData.depth]; omega)
theorem any_strs (x : Str) : ∀ xs : List Str, ((xs.map PyData.str).any fun z => PyData.eqv z (.str x)) = xs.any (· == x)
  | [] => rfl
  | y :: xs => by rw [List.map_cons, List.any_cons, List.any_cons, any_strs x xs, eqv_str]
theorem any_bools (x : Bool) : ∀ xs : List Bool, ((xs.map PyData.bool).any fun z => PyData.eqv z (.bool x)) = xs.any (· == x)
  | [] => rfl
  | y :: xs => by rw [List.map_cons, List.any_cons, List.any_cons, any_bools x xs, eqv_bool]
/-! ### places, slices -/
theorem at0 {α : Type} (x : α) (l : List α) : atI (x :: l) 0 = some x := atI_nat (j := 0) rfl
theorem at1 {α : Type} (x y : α) (l : List α) : atI (x :: y :: l) 1 = some y := atI_nat (j := 1) rfl
theorem at2 {α : Type} (x y z : α) (l : List α) : atI (x :: y :: z :: l) 2 = some z := atI_nat (j := 2) rfl
theorem at3 {α : Type} (x y z w : α) (l : List α) : atI (x :: y :: z :: w :: l) 3 = some w := atI_nat (j := 3) rfl
theorem cut_from (k : Nat) (ds : List PyData) : cutD ds (some (k : Int)) none = ds.drop k := by
  unfold cutD
  rw [HT.sIx_nat, HT.sIx_none]
  by_cases h : k ≤ ds.length
  · rw [Nat.min_eq_left h, List.take_of_length_le (by rw [List.length_drop]; exact Nat.le_refl _)]
  · rw [Nat.min_eq_right (by omega), List.drop_eq_nil_of_le (Nat.le_refl _), List.drop_eq_nil_of_le (by omega), List.take_nil]
theorem cut_to (k : Nat) (ds : List PyData) : cutD ds none (some (k : Int)) = ds.take k := by
  unfold cutD
  rw [HT.sIx_nat, HT.sIx_none, List.drop_zero, Nat.sub_zero]
  by_cases h : k ≤ ds.length
  · rw [Nat.min_eq_left h]
  · rw [Nat.min_eq_right (by omega), List.take_of_length_le (Nat.le_refl _), List.take_of_length_le (by omega)]
theorem cut1 (x : PyData) (ds : List PyData) : cutD (x :: ds) (some 1) none = ds := cut_from 1 (x :: ds)
theorem cut2 (x y : PyData) (ds : List PyData) : cutD (x :: y :: ds) (some 2) none = ds := cut_from 2 (x :: y :: ds)
/-! ### a comprehension over all but the first of a tuple; over a name -/
theorem lc_tail {α : Type} {we : WE} {ρ : List Sl} {P : List PyData → Prop} {i j : Nat} (xs : List α) (enc : α → PyData) (f : α → PyData) {x0 : PyData} (hi : ρ[i]? = some (.dat (.tuple (x0 :: xs.map enc)))) (hj : wipeR ρ [j] = ρ) (hl : xs.length ≤ 1000)
    (hs : ∀ x (Y : PyData → Prop), x ∈ xs → Y (f x) → wipeR (ρ.set j (.dat (enc x))) [j] = ρ ∧ we (ρ.set j (.dat (enc x))) Y) (hd : P (xs.map f)) :
    wLc (wSeq8 (wSl (wVar i) (wPart (wC (.int 1))) wNoPart)) (wgName j) wYes we [j] ρ P :=
  ⟨hj, _, hi, 1, rfl, .inl ⟨_, rfl, xs.map enc, .inr (by rw [cut1]), by rw [List.length_map]; omega, lc_map1 xs enc f hs hd fun d A B => mono_name d A B⟩⟩
theorem lc_var {α : Type} {wt : WT} {we : WE} {ρ : List Sl} {P : List PyData → Prop} {i j : Nat} (xs : List α) (enc : α → PyData) (p : α → Bool) (f : α → PyData) {d : PyData} (hd0 : d = .list (xs.map enc) ∨ d = .tuple (xs.map enc)) (hi : ρ[i]? = some (.dat d)) (hj : wipeR ρ [j] = ρ) (hl : xs.length ≤ 1000)
    (hs : ∀ x (Y : PyData → Prop) (N : Prop), x ∈ xs → (p x = true → Y (f x)) → (p x = false → N) → wipeR (ρ.set j (.dat (enc x))) [j] = ρ ∧ wt (ρ.set j (.dat (enc x))) fun b => (b = true → we (ρ.set j (.dat (enc x))) Y) ∧ (b = false → N)) (hd : P ((xs.filter p).map f)) :
    wLc (wSeq8 (wVar i)) (wgName j) wt we [j] ρ P :=
  ⟨hj, _, hi, xs.map enc, hd0, by rw [List.length_map]; omega, lc_map xs enc p f hs hd⟩
end D8
namespace D8
open PySem PySem.Spec PyProof.Rows L2
/-! ### written words -/
theorem sw_all_has : (("all" : Str) == ("has" : Str)) = false := by decide +kernel
theorem sw_all_in : (("all" : Str) == ("in" : Str)) = false := by decide +kernel
theorem sw_all_not : (("all" : Str) == ("not" : Str)) = false := by decide +kernel
theorem sw_all_and : (("all" : Str) == ("and" : Str)) = false := by decide +kernel
theorem sw_all_or : (("all" : Str) == ("or" : Str)) = false := by decide +kernel
theorem sw_all_none : (("all" : Str) == ("none" : Str)) = false := by decide +kernel
theorem sw_all_some : (("all" : Str) == ("some" : Str)) = false := by decide +kernel
theorem sw_has_all : (("has" : Str) == ("all" : Str)) = false := by decide +kernel
theorem sw_has_in : (("has" : Str) == ("in" : Str)) = false := by decide +kernel
theorem sw_has_not : (("has" : Str) == ("not" : Str)) = false := by decide +kernel
theorem sw_has_and : (("has" : Str) == ("and" : Str)) = false := by decide +kernel
theorem sw_has_or : (("has" : Str) == ("or" : Str)) = false := by decide +kernel
theorem sw_has_none : (("has" : Str) == ("none" : Str)) = false := by decide +kernel
theorem sw_has_some : (("has" : Str) == ("some" : Str)) = false := by decide +kernel
theorem sw_in_all : (("in" : Str) == ("all" : Str)) = false := by decide +kernel
theorem sw_in_has : (("in" : Str) == ("has" : Str)) = false := by decide +kernel
theorem sw_in_not : (("in" : Str) == ("not" : Str)) = false := by decide +kernel
theorem sw_in_and : (("in" : Str) == ("and" : Str)) = false := by decide +kernel
theorem sw_in_or : (("in" : Str) == ("or" : Str)) = false := by decide +kernel
theorem sw_in_none : (("in" : Str) == ("none" : Str)) = false := by decide +kernel
theorem sw_in_some : (("in" : Str) == ("some" : Str)) = false := by decide +kernel
theorem sw_not_all : (("not" : Str) == ("all" : Str)) = false := by decide +kernel
theorem sw_not_has : (("not" : Str) == ("has" : Str)) = false := by decide +kernel
theorem sw_not_in : (("not" : Str) == ("in" : Str)) = false := by decide +kernel
theorem sw_not_and : (("not" : Str) == ("and" : Str)) = false := by decide +kernel
theorem sw_not_or : (("not" : Str) == ("or" : Str)) = false := by decide +kernel
theorem sw_not_none : (("not" : Str) == ("none" : Str)) = false := by decide +kernel
theorem sw_not_some : (("not" : Str) == ("some" : Str)) = false := by decide +kernel
theorem sw_and_all : (("and" : Str) == ("all" : Str)) = false := by decide +kernel
theorem sw_and_has : (("and" : Str) == ("has" : Str)) = false := by decide +kernel
theorem sw_and_in : (("and" : Str) == ("in" : Str)) = false := by decide +kernel
theorem sw_and_not : (("and" : Str) == ("not" : Str)) = false := by decide +kernel
theorem sw_and_or : (("and" : Str) == ("or" : Str)) = false := by decide +kernel
theorem sw_and_none : (("and" : Str) == ("none" : Str)) = false := by decide +kernel
theorem sw_and_some : (("and" : Str) == ("some" : Str)) = false := by decide +kernel
theorem sw_or_all : (("or" : Str) == ("all" : Str)) = false := by decide +kernel
theorem sw_or_has : (("or" : Str) == ("has" : Str)) = false := by decide +kernel
theorem sw_or_in : (("or" : Str) == ("in" : Str)) = false := by decide +kernel
theorem sw_or_not : (("or" : Str) == ("not" : Str)) = false := by decide +kernel
theorem sw_or_and : (("or" : Str) == ("and" : Str)) = false := by decide +kernel
theorem sw_or_none : (("or" : Str) == ("none" : Str)) = false := by decide +kernel
theorem sw_or_some : (("or" : Str) == ("some" : Str)) = false := by decide +kernel
theorem sw_none_all : (("none" : Str) == ("all" : Str)) = false := by decide +kernel
theorem sw_none_has : (("none" : Str) == ("has" : Str)) = false := by decide +kernel
theorem sw_none_in : (("none" : Str) == ("in" : Str)) = false := by decide +kernel
theorem sw_none_not : (("none" : Str) == ("not" : Str)) = false := by decide +kernel
theorem sw_none_and : (("none" : Str) == ("and" : Str)) = false := by decide +kernel
theorem sw_none_or : (("none" : Str) == ("or" : Str)) = false := by decide +kernel
theorem sw_none_some : (("none" : Str) == ("some" : Str)) = false := by decide +kernel
theorem sw_some_all : (("some" : Str) == ("all" : Str)) = false := by decide +kernel
theorem sw_some_has : (("some" : Str) == ("has" : Str)) = false := by decide +kernel
theorem sw_some_in : (("some" : Str) == ("in" : Str)) = false := by decide +kernel
theorem sw_some_not : (("some" : Str) == ("not" : Str)) = false := by decide +kernel
theorem sw_some_and : (("some" : Str) == ("and" : Str)) = false := by decide +kernel
theorem sw_some_or : (("some" : Str) == ("or" : Str)) = false := by decide +kernel
theorem sw_some_none : (("some" : Str) == ("none" : Str)) = false := by decide +kernel
theorem so_all : sok "all" := by decide +kernel
theorem so_has : sok "has" := by decide +kernel
theorem so_in : sok "in" := by decide +kernel
theorem so_not : sok "not" := by decide +kernel
theorem so_and : sok "and" := by decide +kernel
theorem so_or : sok "or" := by decide +kernel
theorem so_none : sok "none" := by decide +kernel
theorem so_some : sok "some" := by decide +kernel
theorem so_a : sok "a" := by decide +kernel
theorem so_ab : sok "ab" := by decide +kernel
theorem so_b : sok "b" := by decide +kernel
theorem so_size : sok "size" := by decide +kernel
theorem so_sizes : sok "sizes" := by decide +kernel
theorem so_tall : sok "tall" := by decide +kernel
theorem so_zzzzzzzz : sok "zzzzzzzz" := by decide +kernel
theorem so_q : sok "q" := by decide +kernel
theorem so_x : sok "x" := by decide +kernel
theorem so_siz : sok "siz" := by decide +kernel
theorem shw_all : SeqAt.shaped (.str "all") = true := shaped_str so_all
theorem shw_has : SeqAt.shaped (.str "has") = true := shaped_str so_has
theorem shw_in : SeqAt.shaped (.str "in") = true := shaped_str so_in
theorem shw_not : SeqAt.shaped (.str "not") = true := shaped_str so_not
theorem shw_and : SeqAt.shaped (.str "and") = true := shaped_str so_and
theorem shw_or : SeqAt.shaped (.str "or") = true := shaped_str so_or
theorem shw_none : SeqAt.shaped (.str "none") = true := shaped_str so_none
theorem shw_some : SeqAt.shaped (.str "some") = true := shaped_str so_some
end D8
namespace D8
open PySem PySem.Spec PyProof.Rows L2

/-! ### what the data stand for -/
abbrev Lab := List (Str × Int)
def encP (p : Str × Int) : PyData := .tuple [.str p.1, .int p.2]
def encL (ls : Lab) : PyData := .tuple (ls.map encP)
structure Rw where
  n : Str
  k : Int
  lo : Int
  hi : Int
  deriving DecidableEq
def encR (r : Rw) : PyData := .tuple [.str r.n, .int r.k, .int r.lo, .int r.hi]
def encT (c : Int) (rs : List Rw) : PyData := .tuple [.int c, .tuple (rs.map encR)]
inductive Fil where
  | all
  | has (n : Str)
  | rng (n : Str) (lo hi : Int)
  | neg (f : Fil)
  | con (fs : List Fil)
  | dis (fs : List Fil)
mutual
def Fil.enc : Fil → PyData
  | .all => .tuple [.str "all"]
  | .has n => .tuple [.str "has", .str n]
  | .rng n lo hi => .tuple [.str "in", .str n, .int lo, .int hi]
  | .neg f => .tuple [.str "not", f.enc]
  | .con fs => .tuple (.str "and" :: Fil.encs fs)
  | .dis fs => .tuple (.str "or" :: Fil.encs fs)
def Fil.encs : List Fil → List PyData
  | [] => []
  | f :: fs => f.enc :: Fil.encs fs
end
theorem encs_map : ∀ fs : List Fil, Fil.encs fs = fs.map Fil.enc
  | [] => by simp only [Fil.encs, List.map_nil]
  | f :: fs => by simp only [Fil.encs, List.map_cons, encs_map fs]
mutual
def Fil.wf : Fil → Prop
  | .all => True
  | .has n => sok n
  | .rng n lo hi => sok n ∧ lo ≤ hi
  | .neg f => f.wf
  | .con fs => fs.length ≤ 10 ∧ Fil.wfs fs
  | .dis fs => fs.length ≤ 10 ∧ Fil.wfs fs
def Fil.wfs : List Fil → Prop
  | [] => True
  | f :: fs => f.wf ∧ Fil.wfs fs
end
theorem wfs_mem : ∀ {fs : List Fil} {f : Fil}, Fil.wfs fs → f ∈ fs → f.wf
  | [], _, _, h => by cases h
  | g :: fs, f, h, hm => by
    simp only [Fil.wfs] at h
    rcases List.mem_cons.mp hm with e | hm
    · rw [e]; exact h.1
    · exact wfs_mem h.2 hm
mutual
def Fil.dep : Fil → Nat
  | .all => 0
  | .has _ => 0
  | .rng _ _ _ => 0
  | .neg f => f.dep + 1
  | .con fs => Fil.deps fs + 1
  | .dis fs => Fil.deps fs + 1
def Fil.deps : List Fil → Nat
  | [] => 0
  | f :: fs => max f.dep (Fil.deps fs)
end
theorem deps_mem : ∀ {fs : List Fil} {f : Fil}, f ∈ fs → f.dep ≤ Fil.deps fs
  | [], _, h => by cases h
  | g :: fs, f, hm => by
    simp only [Fil.deps]
    rcases List.mem_cons.mp hm with e | hm
    · rw [e]; exact Nat.le_max_left _ _
    · exact Nat.le_trans (deps_mem hm) (Nat.le_max_right _ _)
inductive Vd where
  | none
  | all
  | some
  deriving DecidableEq
def Vd.s : Vd → Str
  | .none => "none"
  | .all => "all"
  | .some => "some"
def Vd.opp : Vd → Vd
  | .none => .all
  | .all => .none
  | .some => .some
def look (ls : Lab) (n : Str) : Option Int := (ls.find? fun p => p.1 == n).map (·.2)
def optD : Option Int → PyData
  | .none => .none
  | .some i => .int i
def rowOf (rs : List Rw) (n : Str) : Option Rw := rs.find? fun r => r.n == n
def rv (r : Rw) (lo hi c : Int) : Vd :=
  if hi < r.lo ∨ r.hi < lo ∨ (r.k ≤ 2 ∧ r.lo < lo ∧ hi < r.hi) then .none else if r.k = c ∧ lo ≤ r.lo ∧ r.hi ≤ hi then .all else .some
def vall (ws : List Vd) : Vd := if .none ∈ ws then .none else if .some ∈ ws then .some else .all
mutual
def vd (c : Int) (rs : List Rw) : Fil → Vd
  | .all => .all
  | .has n => match rowOf rs n with
    | .none => .none
    | .some r => if r.k = c then .all else .some
  | .rng n lo hi => match rowOf rs n with
    | .none => .none
    | .some r => rv r lo hi c
  | .neg f => (vd c rs f).opp
  | .con fs => vall (vds c rs fs)
  | .dis fs => (vall ((vds c rs fs).map Vd.opp)).opp
def vds (c : Int) (rs : List Rw) : List Fil → List Vd
  | [] => []
  | f :: fs => vd c rs f :: vds c rs fs
end
def verd (c : Int) (rs : List Rw) (f : Fil) : Vd := if c = 0 then .none else vd c rs f
theorem vds_map (c : Int) (rs : List Rw) : ∀ fs : List Fil, vds c rs fs = fs.map (vd c rs)
  | [] => by simp only [vds, List.map_nil]
  | f :: fs => by simp only [vds, List.map_cons, vds_map c rs fs]
mutual
def lets (ls : Lab) : Fil → Bool
  | .all => true
  | .has n => (look ls n).isSome
  | .rng n lo hi => match look ls n with
    | .none => false
    | .some v => decide (lo ≤ v ∧ v ≤ hi)
  | .neg f => !lets ls f
  | .con fs => letsA ls fs
  | .dis fs => letsO ls fs
def letsA (ls : Lab) : List Fil → Bool
  | [] => true
  | f :: fs => lets ls f && letsA ls fs
def letsO (ls : Lab) : List Fil → Bool
  | [] => false
  | f :: fs => lets ls f || letsO ls fs
end
theorem letsA_all (ls : Lab) : ∀ fs : List Fil, letsA ls fs = fs.all (lets ls)
  | [] => by simp only [letsA, List.all_nil]
  | f :: fs => by simp only [letsA, List.all_cons, letsA_all ls fs]
theorem letsO_any (ls : Lab) : ∀ fs : List Fil, letsO ls fs = fs.any (lets ls)
  | [] => by simp only [letsO, List.any_nil]
  | f :: fs => by simp only [letsO, List.any_cons, letsO_any ls fs]

/-! ### promises of the program's defs -/
abbrev Lok (ls : Lab) : Prop := ∀ p ∈ ls, sok p.1
abbrev Rok (rs : List Rw) : Prop := ∀ r ∈ rs, sok r.n
def S_label_in : S8 := fun ds P => ∃ ls n, ds = [encL ls, .str n] ∧ Lok ls ∧ sok n ∧ P (optD (look ls n))
def rowD : Option Rw → PyData
  | .none => .none
  | .some r => encR r
def S_row_of_name : S8 := fun ds P => ∃ c rs n, ds = [encT c rs, .str n] ∧ Rok rs ∧ sok n ∧ P (rowD (rowOf rs n))
def S_range_verdict : S8 := fun ds P => ∃ n lo hi r c, ds = [(Fil.rng n lo hi).enc, encR r, .int c] ∧ P (.str (rv r lo hi c).s)
def S_opposite_verdict : S8 := fun ds P => ∃ v : Vd, ds = [.str v.s] ∧ P (.str v.opp.s)
def S_verdict_of_all : S8 := fun ds P => ∃ ws : List Vd, ds = [.list (ws.map fun v => .str v.s)] ∧ P (.str (vall ws).s)
def S_verdict (n : Nat) : S8 := fun ds P => ∃ f c rs, ds = [Fil.enc f, encT c rs] ∧ f.wf ∧ f.dep < n ∧ Rok rs ∧ P (.str (verd c rs f).s)
def S_may_pass (n : Nat) : S8 := fun ds P => ∃ f c rs, ds = [Fil.enc f, encT c rs] ∧ f.wf ∧ f.dep < n ∧ Rok rs ∧ P (.bool (decide (verd c rs f ≠ .none)))
def S_must_pass (n : Nat) : S8 := fun ds P => ∃ f c rs, ds = [Fil.enc f, encT c rs] ∧ f.wf ∧ f.dep < n ∧ Rok rs ∧ P (.bool (decide (c = 0 ∨ verd c rs f = .all)))
def S_lets_by (n : Nat) : S8 := fun ds P => ∃ f ls, ds = [Fil.enc f, encL ls] ∧ f.wf ∧ f.dep < n ∧ Lok ls ∧ P (.bool (lets ls f))
def S_passes (n : Nat) : S8 := fun ds P => ∃ f k x ls, ds = [Fil.enc f, .tuple [k, x, encL ls]] ∧ f.wf ∧ f.dep < n ∧ Lok ls ∧ P (.bool (lets ls f))
end D8
namespace D8
open PySem PySem.Spec PyProof.Rows L2
local macro_rules | `(tactic| walk_at "dl") => `(tactic| simp only [wSeq, wIfS, wRet, wAsg, wPar, wNext, wB, wOp, wUn, wNeg, wVar, wC, wIx, wEqD, wNeD, wInD, wNotInD, wI, wTup, wLst, wCons, wNil, wCB, wCall, wCallH, wCal2, wIfE, wAnd, wOr, wNot, wAndV, wOrV, wNotV, wChain, wIsN, wNotN, wgName, wgTup, wgCons, wgNil, wL, wYes, wSl, wPart, wNoPart, wCat, wCatT, wRep,
  wLen, wMin2, wMax2, wAll, wAny, wTupOf, wListOf, wInt1, wOwn, wApp, wFrz, wIxOwn, wDrop, dats, List.map_cons, List.map_nil, List.cons_append, List.nil_append, List.replicate, List.set_cons_zero, List.set_cons_succ, List.getElem?_cons_zero, List.getElem?_cons_succ, Option.some.injEq, Sl.dat.injEq, Sl.own.injEq, exists_eq_left', exists_eq_left, exists_eq_right', exists_eq_right,
  PyData.tuple.injEq, PyData.list.injEq, PyData.int.injEq, PyData.str.injEq, PyData.bool.injEq, List.cons.injEq, reduceCtorEq, false_or, or_false, false_and, and_false, and_true, true_and, exists_const, exists_false, eqv_str, eqv_int, eqv_bool, shaped_int, shaped_bool, and_assoc, exists_and_left, List.length_cons, List.length_nil, Nat.reduceAdd, Nat.zero_add, at0, at1, at2, at3, cut1, cut2, beq_self_eq_true, Bool.not_true, Bool.not_false, Bool.false_eq_true, false_implies, true_implies, forall_const, eq_self_iff_true, forall_eq, forall_eq', Bool.true_eq_false, sw_all_has, sw_all_in, sw_all_not, sw_all_and, sw_all_or, sw_all_none, sw_all_some, sw_has_all, sw_has_in, sw_has_not, sw_has_and, sw_has_or, sw_has_none, sw_has_some, sw_in_all, sw_in_has, sw_in_not, sw_in_and, sw_in_or, sw_in_none, sw_in_some, sw_not_all, sw_not_has, sw_not_in, sw_not_and, sw_not_or, sw_not_none, sw_not_some, sw_and_all, sw_and_has, sw_and_in, sw_and_not, sw_and_or, sw_and_none, sw_and_some, sw_or_all, sw_or_has, sw_or_in, sw_or_not, sw_or_and, sw_or_none, sw_or_some, sw_none_all, sw_none_has, sw_none_in, sw_none_not, sw_none_and, sw_none_or, sw_none_some, sw_some_all, sw_some_has, sw_some_in, sw_some_not, sw_some_and, sw_some_or, sw_some_none, shw_all, shw_has, shw_in, shw_not, shw_and, shw_or, shw_none, shw_some])
local macro_rules | `(tactic| walk_at "sw") => `(tactic| simp only [sw_all_has, sw_all_in, sw_all_not, sw_all_and, sw_all_or, sw_all_none, sw_all_some, sw_has_all, sw_has_in, sw_has_not, sw_has_and, sw_has_or, sw_has_none, sw_has_some, sw_in_all, sw_in_has, sw_in_not, sw_in_and, sw_in_or, sw_in_none, sw_in_some, sw_not_all, sw_not_has, sw_not_in, sw_not_and, sw_not_or, sw_not_none, sw_not_some, sw_and_all, sw_and_has, sw_and_in, sw_and_not, sw_and_or, sw_and_none, sw_and_some, sw_or_all, sw_or_has, sw_or_in, sw_or_not, sw_or_and, sw_or_none, sw_or_some, sw_none_all, sw_none_has, sw_none_in, sw_none_not, sw_none_and, sw_none_or, sw_none_some, sw_some_all, sw_some_has, sw_some_in, sw_some_not, sw_some_and, sw_some_or, sw_some_none, beq_self_eq_true])
theorem law_label_in : ∀ ds P, S_label_in ds P → w_label_in { nx := fun _ => P .none, rt := P } (dats ds 2) := by
  rintro ds P ⟨ls, n, rfl, h1, h2, p⟩
  unfold w_label_in
  walk_at "dl"
  refine ⟨_, rfl, _, .inr rfl, for_find ls encP (fun ρ => ∃ x y, ρ = [.dat (encL ls), .dat (.str n), x, y]) (fun p => if p.1 == n then some (.int p.2) else none) ⟨_, _, rfl⟩ (fun p ρ N hp ⟨x, y, e⟩ k1 k2 => ?_) (fun r hr => ?_) (fun hn ρ _ => ?_)⟩
  · subst e
    have q := shaped_str (h1 p hp)
    have q2 := shaped_str h2
    simp only [encP]
    walk_at "dl"
    exact ⟨q, q2, fun e => k1 _ (by rw [e, if_pos rfl]), fun e => k2 _ ⟨_, _, rfl⟩ (by rw [e, if_neg Bool.false_ne_true])⟩
  · have e : ∀ ls : Lab, List.findSome? (fun p => if (p.fst == n) = true then some (PyData.int p.snd) else none) ls = (look ls n).map PyData.int := fun ls => by
      induction ls with
      | nil => rfl
      | cons a ls ih =>
        unfold look at ih ⊢
        rw [List.findSome?_cons, List.find?_cons]
        cases h : (a.1 == n) with
        | true => rfl
        | false => simpa using ih
    rw [e] at hr
    obtain ⟨i, h3, h4⟩ := Option.map_eq_some_iff.mp hr
    subst h4
    rw [h3] at p
    exact p
  · have e : look ls n = none := by
      unfold look
      rw [Option.map_eq_none_iff, List.find?_eq_none]
      intro x hx hxn
      have := List.findSome?_eq_none_iff.mp hn x hx
      rw [if_pos hxn] at this
      cases this
    rw [e] at p
    exact p
theorem law_row_of_name : ∀ ds P, S_row_of_name ds P → w_row_of_name { nx := fun _ => P .none, rt := P } (dats ds 1) := by
  rintro ds P ⟨c, rs, n, rfl, h1, h2, p⟩
  unfold w_row_of_name
  walk_at "dl"
  refine ⟨_, rfl, _, _, _, .inr rfl, rfl, at1 _ _ _, _, .inr rfl, for_find rs encR (fun ρ => ∃ x, ρ = [.dat (encT c rs), .dat (.str n), x]) (fun r => if r.n == n then some (encR r) else none) ⟨_, rfl⟩ (fun r ρ N hr ⟨x, e⟩ k1 k2 => ?_) (fun r hr => ?_) (fun hn ρ _ => ?_)⟩
  · subst e
    have q := shaped_str (h1 r hr)
    have q2 := shaped_str h2
    simp only [encR]
    walk_at "dl"
    exact ⟨q, q2, fun e => k1 (encR r) (if_pos e), fun e => k2 _ ⟨_, rfl⟩ (by rw [e, if_neg Bool.false_ne_true])⟩
  · have e : ∀ rs : List Rw, List.findSome? (fun r => if (r.n == n) = true then some (encR r) else none) rs = (rowOf rs n).map encR := fun rs => by
      induction rs with
      | nil => rfl
      | cons a rs ih =>
        unfold rowOf at ih ⊢
        rw [List.findSome?_cons, List.find?_cons]
        cases h : (a.n == n) with
        | true => rfl
        | false => simpa using ih
    rw [e] at hr
    obtain ⟨i, h3, h4⟩ := Option.map_eq_some_iff.mp hr
    subst h4
    rw [h3] at p
    exact p
  · have e : rowOf rs n = none := by
      unfold rowOf
      rw [List.find?_eq_none]
      intro x hx hxn
      have := List.findSome?_eq_none_iff.mp hn x hx
      rw [if_pos hxn] at this
      cases this
    rw [e] at p
    exact p
theorem shaped_vd (v : Vd) : SeqAt.shaped (.str v.s) = true := by
  cases v
  · exact shaped_str so_none
  · exact shaped_str so_all
  · exact shaped_str so_some
theorem beq_vd (v w : Vd) : (v.s == w.s) = decide (v = w) := by
  cases v <;> cases w <;> simp only [Vd.s] <;> walk_at "sw" <;> rfl
theorem law_opposite_verdict : ∀ ds P, S_opposite_verdict ds P → w_opposite_verdict { nx := fun _ => P .none, rt := P } (dats ds 0) := by
  rintro ds P ⟨v, rfl, p⟩
  unfold w_opposite_verdict
  walk_at "dl"
  have q := shaped_vd v
  have q1 := shaped_str so_some
  have q2 := shaped_str so_none
  have e1 : (v.s == ("some" : Str)) = decide (v = .some) := beq_vd v .some
  have e2 : (v.s == ("none" : Str)) = decide (v = .none) := beq_vd v .none
  rw [e1, e2]
  refine ⟨q, fun h => ?_, fun h => ⟨q, fun h2 => ?_, fun h2 => ?_⟩⟩
  · rw [of_decide_eq_true h] at p; exact p
  · rw [of_decide_eq_true h2] at p; exact p
  · cases v with
    | none => exact absurd h2 (by decide)
    | all => exact p
    | some => exact absurd h (by decide)
theorem shaped_vds (ws : List Vd) : SeqAt.shaped (.list (ws.map fun v => .str v.s)) = true := by
  have e : ws.map (fun v => PyData.str v.s) = (ws.map Vd.s).map PyData.str := by rw [List.map_map] <;> rfl
  rw [e]
  refine shaped_strs fun x hx => ?_
  obtain ⟨v, _, rfl⟩ := List.mem_map.mp hx
  cases v
  · exact so_none
  · exact so_all
  · exact so_some
theorem any_vds (w : Vd) : ∀ ws : List Vd, ((ws.map fun v => PyData.str v.s).any fun z => PyData.eqv z (.str w.s)) = decide (w ∈ ws)
  | [] => by simp
  | v :: ws => by
    rw [List.map_cons, List.any_cons, any_vds w ws, eqv_str, beq_vd]
    by_cases h2 : v = w
    · subst h2; simp
    · have h3 : ¬ w = v := fun e => h2 e.symm
      simp [h2, h3]
theorem law_verdict_of_all : ∀ ds P, S_verdict_of_all ds P → w_verdict_of_all { nx := fun _ => P .none, rt := P } (dats ds 0) := by
  rintro ds P ⟨ws, rfl, p⟩
  unfold w_verdict_of_all
  walk_at "dl"
  have q1 := shaped_str so_some
  have q2 := shaped_str so_none
  have q := shaped_vds ws
  have e1 : ((ws.map fun v => PyData.str v.s).any fun z => PyData.eqv z (.str "none")) = decide (.none ∈ ws) := any_vds .none ws
  have e2 : ((ws.map fun v => PyData.str v.s).any fun z => PyData.eqv z (.str "some")) = decide (.some ∈ ws) := any_vds .some ws
  refine ⟨q, fun h => ?_, fun h => ⟨q, fun h2 => ?_, fun h2 => ?_⟩⟩
  · rw [e1] at h
    unfold vall at p
    rw [if_pos (of_decide_eq_true h)] at p; exact p
  · rw [e1] at h; rw [e2] at h2
    unfold vall at p
    rw [if_neg (of_decide_eq_false h), if_pos (of_decide_eq_true h2)] at p; exact p
  · rw [e1] at h; rw [e2] at h2
    unfold vall at p
    rw [if_neg (of_decide_eq_false h), if_neg (of_decide_eq_false h2)] at p; exact p
theorem ifE {b : Bool} {c : Prop} [Decidable c] {A B C : Prop} (e : b = decide c) (h1 : c → A) (h2 : ¬ c → B) : (b = true → A) ∧ (b = false → B) := by
  subst e
  exact ⟨fun z => h1 (of_decide_eq_true z), fun z => h2 (of_decide_eq_false z)⟩
theorem law_range_verdict : ∀ ds P, S_range_verdict ds P → w_range_verdict { nx := fun _ => P .none, rt := P } (dats ds 6) := by
  rintro ds P ⟨n, lo, hi, r, c, rfl, p⟩
  unfold w_range_verdict
  simp only [Fil.enc, encR]
  walk_at "dl"
  unfold rv at p
  by_cases a : hi < r.lo
  · rw [if_pos (.inl a)] at p
    exact ⟨fun _ => p, fun z => absurd a (of_decide_eq_false z)⟩
  refine ⟨fun z => absurd (of_decide_eq_true z) a, fun _ => ?_⟩
  by_cases b : r.hi < lo
  · rw [if_pos (.inr (.inl b))] at p
    exact ⟨fun _ => p, fun z => absurd b (of_decide_eq_false z)⟩
  refine ⟨fun z => absurd (of_decide_eq_true z) b, fun _ => ?_⟩
  have rest : ¬ (r.k ≤ 2 ∧ r.lo < lo ∧ hi < r.hi) → ((r.k == c) = true → (decide (lo ≤ r.lo) = true → (decide (r.hi ≤ hi) = true → P (.str "all")) ∧ (decide (r.hi ≤ hi) = false → P (.str "some"))) ∧ (decide (lo ≤ r.lo) = false → P (.str "some"))) ∧ ((r.k == c) = false → P (.str "some")) := fun g => by
    rw [if_neg (fun z => z.elim a fun z => z.elim b g)] at p
    by_cases q : r.k = c ∧ lo ≤ r.lo ∧ r.hi ≤ hi
    · rw [if_pos q] at p
      exact ⟨fun _ => ⟨fun _ => ⟨fun _ => p, fun z => absurd q.2.2 (of_decide_eq_false z)⟩, fun z => absurd q.2.1 (of_decide_eq_false z)⟩, fun z => absurd q.1 (beq_eq_false_iff_ne.mp z)⟩
    · rw [if_neg q] at p
      exact ⟨fun z1 => ⟨fun z2 => ⟨fun z3 => absurd ⟨beq_iff_eq.mp z1, of_decide_eq_true z2, of_decide_eq_true z3⟩ q, fun _ => p⟩, fun _ => p⟩, fun _ => p⟩
  by_cases g1 : r.k ≤ 2
  · refine ⟨fun _ => ?_, fun z => absurd g1 (of_decide_eq_false z)⟩
    by_cases g2 : r.lo < lo
    · refine ⟨fun _ => ?_, fun z => absurd g2 (of_decide_eq_false z)⟩
      by_cases g3 : hi < r.hi
      · rw [if_pos (.inr (.inr ⟨g1, g2, g3⟩))] at p
        exact ⟨fun _ => p, fun z => absurd g3 (of_decide_eq_false z)⟩
      · exact ⟨fun z => absurd (of_decide_eq_true z) g3, fun _ => rest fun z => g3 z.2.2⟩
    · exact ⟨fun z => absurd (of_decide_eq_true z) g2, fun _ => rest fun z => g2 z.2.1⟩
  · exact ⟨fun z => absurd (of_decide_eq_true z) g1, fun _ => rest fun z => g1 z.1⟩
theorem sok_shaped {n : Str} (h : sok n) : SeqAt.shaped (.str n) = true := shaped_str h
theorem verd_pos {c : Int} {rs : List Rw} {f : Fil} (h : ¬ c = 0) : verd c rs f = vd c rs f := if_neg h
theorem S_verdict_in {n : Nat} {c : Int} {rs : List Rw} {f : Fil} {P : PyData → Prop} (hc : ¬ c = 0) (hw : f.wf) (hd : f.dep < n) (hr : Rok rs) (p : P (.str (vd c rs f).s)) : S_verdict n [f.enc, .tuple [.int c, .tuple (rs.map encR)]] P :=
  ⟨f, c, rs, rfl, hw, hd, hr, by rw [verd_pos hc]; exact p⟩
theorem law_verdict (n : Nat) : ∀ ds P, S_verdict (n + 1) ds P → w_verdict S_opposite_verdict (S_verdict n) S_verdict_of_all S_row_of_name S_range_verdict { nx := fun _ => P .none, rt := P } (dats ds 3) := by
  rintro ds P ⟨f, c, rs, rfl, hw, hd, hr, p⟩
  unfold w_verdict
  simp only [encT]
  walk_at "dl"
  by_cases hc : c = 0
  · subst hc
    exact ⟨fun _ => p, fun z => absurd z (by decide)⟩
  refine ⟨fun z => absurd (beq_iff_eq.mp z) hc, fun _ => ?_⟩
  rw [verd_pos hc] at p
  cases f with
  | all =>
    simp only [Fil.enc, vd, Vd.s] at p ⊢
    walk_at "dl"
    exact p
  | has m =>
    simp only [Fil.enc, vd, Fil.wf] at p hw ⊢
    walk_at "dl"
    refine ⟨c, rs, m, rfl, hr, hw, ?_⟩
    cases h : rowOf rs m with
    | none => rw [h] at p; exact ⟨fun _ => p, fun z => Bool.noConfusion z⟩
    | some r =>
      rw [h] at p
      refine ⟨fun z => Bool.noConfusion z, fun _ => ?_⟩
      simp only [rowD, encR]
      walk_at "dl"
      refine ⟨fun z => ?_, fun z => ?_⟩
      · have p : P (.str (if r.k = c then Vd.all else Vd.some).s) := p
        rw [if_pos (beq_iff_eq.mp z)] at p; exact p
      · have p : P (.str (if r.k = c then Vd.all else Vd.some).s) := p
        rw [if_neg (beq_eq_false_iff_ne.mp z)] at p; exact p
  | rng m lo hi =>
    simp only [Fil.enc, vd, Fil.wf] at p hw ⊢
    walk_at "dl"
    refine ⟨c, rs, m, rfl, hr, hw.1, ?_⟩
    cases h : rowOf rs m with
    | none => rw [h] at p; exact ⟨fun _ => p, fun z => Bool.noConfusion z⟩
    | some r =>
      rw [h] at p
      refine ⟨fun z => Bool.noConfusion z, fun _ => ?_⟩
      exact ⟨m, lo, hi, r, c, by simp only [Fil.enc]; rfl, p⟩
  | neg f =>
    simp only [Fil.enc, vd, Fil.wf, Fil.dep] at p hw hd ⊢
    walk_at "dl"
    exact S_verdict_in hc hw (by omega) hr ⟨_, rfl, p⟩
  | con fs =>
    simp only [Fil.enc, vd, Fil.wf, Fil.dep] at p hw hd ⊢
    walk_at "dl"
    rw [encs_map, vds_map] at *
    refine lc_tail fs Fil.enc (fun f => .str (vd c rs f).s) rfl rfl (by omega) (fun f Y hf hY => ⟨rfl, ?_⟩) ⟨fs.map (vd c rs), by rw [List.map_map] <;> rfl, p⟩
    walk_at "dl"
    exact S_verdict_in hc (wfs_mem hw.2 hf) (by have := deps_mem hf; omega) hr hY
  | dis fs =>
    simp only [Fil.enc, vd, Fil.wf, Fil.dep] at p hw hd ⊢
    walk_at "dl"
    rw [encs_map, vds_map] at *
    refine lc_tail fs Fil.enc (fun f => .str (vd c rs f).opp.s) rfl rfl (by omega) (fun f Y hf hY => ⟨rfl, ?_⟩) ⟨(fs.map (vd c rs)).map Vd.opp, by rw [List.map_map, List.map_map] <;> rfl, _, rfl, p⟩
    walk_at "dl"
    exact S_verdict_in hc (wfs_mem hw.2 hf) (by have := deps_mem hf; omega) hr ⟨_, rfl, hY⟩
end D8
namespace D8
open PySem PySem.Spec PyProof.Rows L2
local macro_rules | `(tactic| walk_at "dl") => `(tactic| simp only [wSeq, wIfS, wRet, wAsg, wPar, wNext, wB, wOp, wUn, wNeg, wVar, wC, wIx, wEqD, wNeD, wInD, wNotInD, wI, wTup, wLst, wCons, wNil, wCB, wCall, wCallH, wCal2, wIfE, wAnd, wOr, wNot, wAndV, wOrV, wNotV, wChain, wIsN, wNotN, wgName, wgTup, wgCons, wgNil, wL, wYes, wSl, wPart, wNoPart, wCat, wCatT, wRep,
  wLen, wMin2, wMax2, wAll, wAny, wTupOf, wListOf, wInt1, wOwn, wApp, wFrz, wIxOwn, wDrop, dats, List.map_cons, List.map_nil, List.cons_append, List.nil_append, List.replicate, List.set_cons_zero, List.set_cons_succ, List.getElem?_cons_zero, List.getElem?_cons_succ, Option.some.injEq, Sl.dat.injEq, Sl.own.injEq, exists_eq_left', exists_eq_left, exists_eq_right', exists_eq_right,
  PyData.tuple.injEq, PyData.list.injEq, PyData.int.injEq, PyData.str.injEq, PyData.bool.injEq, List.cons.injEq, reduceCtorEq, false_or, or_false, false_and, and_false, and_true, true_and, exists_const, exists_false, eqv_str, eqv_int, eqv_bool, shaped_int, shaped_bool, and_assoc, exists_and_left, List.length_cons, List.length_nil, Nat.reduceAdd, Nat.zero_add, at0, at1, at2, at3, cut1, cut2, beq_self_eq_true, Bool.not_true, Bool.not_false, Bool.false_eq_true, false_implies, true_implies, forall_const, eq_self_iff_true, forall_eq, forall_eq', Bool.true_eq_false, sw_all_has, sw_all_in, sw_all_not, sw_all_and, sw_all_or, sw_all_none, sw_all_some, sw_has_all, sw_has_in, sw_has_not, sw_has_and, sw_has_or, sw_has_none, sw_has_some, sw_in_all, sw_in_has, sw_in_not, sw_in_and, sw_in_or, sw_in_none, sw_in_some, sw_not_all, sw_not_has, sw_not_in, sw_not_and, sw_not_or, sw_not_none, sw_not_some, sw_and_all, sw_and_has, sw_and_in, sw_and_not, sw_and_or, sw_and_none, sw_and_some, sw_or_all, sw_or_has, sw_or_in, sw_or_not, sw_or_and, sw_or_none, sw_or_some, sw_none_all, sw_none_has, sw_none_in, sw_none_not, sw_none_and, sw_none_or, sw_none_some, sw_some_all, sw_some_has, sw_some_in, sw_some_not, sw_some_and, sw_some_or, sw_some_none, shw_all, shw_has, shw_in, shw_not, shw_and, shw_or, shw_none, shw_some])
local macro_rules | `(tactic| walk_at "sw") => `(tactic| simp only [sw_all_has, sw_all_in, sw_all_not, sw_all_and, sw_all_or, sw_all_none, sw_all_some, sw_has_all, sw_has_in, sw_has_not, sw_has_and, sw_has_or, sw_has_none, sw_has_some, sw_in_all, sw_in_has, sw_in_not, sw_in_and, sw_in_or, sw_in_none, sw_in_some, sw_not_all, sw_not_has, sw_not_in, sw_not_and, sw_not_or, sw_not_none, sw_not_some, sw_and_all, sw_and_has, sw_and_in, sw_and_not, sw_and_or, sw_and_none, sw_and_some, sw_or_all, sw_or_has, sw_or_in, sw_or_not, sw_or_and, sw_or_none, sw_or_some, sw_none_all, sw_none_has, sw_none_in, sw_none_not, sw_none_and, sw_none_or, sw_none_some, sw_some_all, sw_some_has, sw_some_in, sw_some_not, sw_some_and, sw_some_or, sw_some_none, beq_self_eq_true])
theorem law_may_pass (n : Nat) : ∀ ds P, S_may_pass n ds P → w_may_pass (S_verdict n) { nx := fun _ => P .none, rt := P } (dats ds 0) := by
  rintro ds P ⟨f, c, rs, rfl, hw, hd, hr, p⟩
  unfold w_may_pass
  walk_at "dl"
  refine ⟨f, c, rs, rfl, hw, hd, hr, shaped_vd _, ?_⟩
  have e : PyData.eqv (.str (verd c rs f).s) (.str "none") = decide (verd c rs f = .none) := (eqv_str _ _).trans (beq_vd _ .none)
  walk_at "dl"
  rw [eqv_str] at e
  rw [e]
  have e2 : (!decide (verd c rs f = .none)) = decide (verd c rs f ≠ .none) := by by_cases h : verd c rs f = .none <;> simp [h]
  rw [e2]; exact p
theorem law_must_pass (n : Nat) : ∀ ds P, S_must_pass n ds P → w_must_pass (S_verdict n) { nx := fun _ => P .none, rt := P } (dats ds 0) := by
  rintro ds P ⟨f, c, rs, rfl, hw, hd, hr, p⟩
  unfold w_must_pass
  simp only [encT]
  walk_at "dl"
  refine ⟨fun h => ?_, fun h => ⟨f, c, rs, rfl, hw, hd, hr, shaped_vd _, ?_⟩⟩
  · have hc := beq_iff_eq.mp h
    rw [decide_eq_true (.inl hc)] at p; exact p
  · have hc := beq_eq_false_iff_ne.mp h
    have e : ((verd c rs f).s == ("all" : Str)) = decide (verd c rs f = .all) := beq_vd _ .all
    walk_at "dl"
    rw [e]
    have e2 : decide (c = 0 ∨ verd c rs f = .all) = decide (verd c rs f = .all) := by simp [hc]
    rw [e2] at p; exact p
theorem law_lets_by (n : Nat) : ∀ ds P, S_lets_by (n + 1) ds P → w_lets_by (S_lets_by n) S_label_in { nx := fun _ => P .none, rt := P } (dats ds 2) := by
  rintro ds P ⟨f, ls, rfl, hw, hd, hr, p⟩
  unfold w_lets_by
  walk_at "dl"
  cases f with
  | all =>
    simp only [Fil.enc, lets] at p ⊢
    walk_at "dl"
    exact p
  | has m =>
    simp only [Fil.enc, lets, Fil.wf] at p hw ⊢
    walk_at "dl"
    refine ⟨ls, m, rfl, hr, hw, ?_⟩
    cases h : look ls m with
    | none => rw [h] at p; exact ⟨fun z => Bool.noConfusion z, fun _ => p⟩
    | some v => rw [h] at p; exact ⟨fun _ => p, fun z => Bool.noConfusion z⟩
  | rng m lo hi =>
    simp only [Fil.enc, lets, Fil.wf] at p hw ⊢
    walk_at "dl"
    refine ⟨ls, m, rfl, hr, hw.1, ?_⟩
    cases h : look ls m with
    | none => rw [h] at p; exact ⟨fun z => Bool.noConfusion z, fun _ => p⟩
    | some v =>
      rw [h] at p
      have p : P (.bool (decide (lo ≤ v ∧ v ≤ hi))) := p
      refine ⟨fun _ => ?_, fun z => Bool.noConfusion z⟩
      simp only [optD]
      walk_at "dl"
      by_cases h1 : lo ≤ v
      · refine ⟨fun _ => ?_, fun z => absurd h1 (of_decide_eq_false z)⟩
        have e : decide (lo ≤ v ∧ v ≤ hi) = decide (v ≤ hi) := by simp [h1]
        rw [e] at p; exact p
      · refine ⟨fun z => absurd (of_decide_eq_true z) h1, fun _ => ?_⟩
        rw [decide_eq_false (fun z => h1 z.1)] at p; exact p
  | neg f =>
    simp only [Fil.enc, lets, Fil.wf, Fil.dep] at p hw hd ⊢
    walk_at "dl"
    refine ⟨f, ls, rfl, hw, by omega, hr, ?_⟩
    walk_at "dl"
    exact p
  | con fs =>
    simp only [Fil.enc, lets, Fil.wf, Fil.dep] at p hw hd ⊢
    walk_at "dl"
    rw [encs_map]
    rw [letsA_all] at p
    refine lc_tail fs Fil.enc (fun f => .bool (lets ls f)) rfl rfl (by omega) (fun f Y hf hY => ⟨rfl, ?_⟩) ⟨fs.map (lets ls), by rw [List.map_map] <;> rfl, ?_⟩
    · walk_at "dl"
      exact ⟨f, ls, rfl, wfs_mem hw.2 hf, by have := deps_mem hf; omega, hr, hY⟩
    · rw [List.all_map]; exact p
  | dis fs =>
    simp only [Fil.enc, lets, Fil.wf, Fil.dep] at p hw hd ⊢
    walk_at "dl"
    rw [encs_map]
    rw [letsO_any] at p
    refine lc_tail fs Fil.enc (fun f => .bool (lets ls f)) rfl rfl (by omega) (fun f Y hf hY => ⟨rfl, ?_⟩) ⟨fs.map (lets ls), by rw [List.map_map] <;> rfl, ?_⟩
    · walk_at "dl"
      exact ⟨f, ls, rfl, wfs_mem hw.2 hf, by have := deps_mem hf; omega, hr, hY⟩
    · rw [List.any_map]; exact p
theorem law_passes (n : Nat) : ∀ ds P, S_passes n ds P → w_passes (S_lets_by n) { nx := fun _ => P .none, rt := P } (dats ds 0) := by
  rintro ds P ⟨f, k, x, ls, rfl, hw, hd, hr, p⟩
  unfold w_passes
  walk_at "dl"
  exact ⟨f, ls, rfl, hw, hd, hr, p⟩
end D8
/-! the source of draws, read by hand: a number drawn; things mixed; the heap made -/
namespace D8
open PySem PySem.Spec PyProof.Rows L2

theorem canLay_ints : ∀ xs : List Int, PyData.canLayAll0 (xs.map .int) = true
  | [] => by simp only [List.map_nil, PyData.canLayAll0]
  | x :: xs => by
    simp only [List.map_cons, PyData.canLayAll0, PyData.canLay0, Bool.and_eq_true]
    exact ⟨trivial, canLay_ints xs⟩
theorem depth_ints : ∀ xs : List Int, PyData.depthAll (xs.map .int) = 0
  | [] => by simp only [List.map_nil, PyData.depthAll]
  | x :: xs => by
    simp only [List.map_cons, PyData.depthAll, PyData.depth, depth_ints xs]; rfl
theorem shaped_ints (xs : List Int) : SeqAt.shaped (.list (xs.map .int)) = true := shaped_of (by simp only [PyData.canLay0]; exact canLay_ints xs) (by simp only [PyData.depth, depth_ints]; omega)
theorem shaped_nil : SeqAt.shaped (.list []) = true := shaped_ints []
theorem dp_ints {K : PySem.W.Frag} {H : Hp} : ∀ ns : List Int, DpAll K H (ns.map V.int) (ns.map PyData.int)
  | [] => .nil
  | n :: ns => .cons (.int n) (dp_ints ns)
theorem eqv_nil (ds : List PyData) : PyData.eqv (.list ds) (.list []) = ds.isEmpty := by
  cases ds <;> simp only [PyData.eqv, PyData.eqvAll, List.isEmpty]

section
variable {K : PySem.W.Frag} {σ : L2.St} {H : Hp} {a c : Addr} {cells : List Int} {st : Int}
/-- the cells are not done -/
theorem read_some {Q : Bool → Hp → Prop} (h0 : σ[0]? = some (some (.ref a))) (ha : H a = some (.lst [.ref c, .int st])) (hc : H c = some (.lst (cells.map V.int))) (q : ∀ p, H p = none → Q (!cells.isEmpty) (upd H p (.lst []))) :
    tTest (tOp (rNeD K) (tOp (rIx8 K) (tVar 0) (tC (.int 0))) (tLst tNil)) σ H Q := by
  refine ⟨.ref a, h0, .inl ⟨a, _, 0, .ref c, rfl, rfl, SqL.of ha, at0 _ _, Nat.zero_le _, fun p hp => ?_⟩⟩
  have nc : c ≠ p := ne_of_none hc hp
  refine ⟨.list (cells.map .int), .list [], .lst (SqL.of (by rw [upd_ne nc]; exact hc)) (dp_ints cells), .lst (SqL.of upd_same) .nil, shaped_ints cells, shaped_nil, !cells.isEmpty, ?_, q p hp⟩
  rw [eqv_nil]
  cases cells <;> rfl
theorem read_cells {Q : VK} (h0 : σ[0]? = some (some (.ref a))) (ha : H a = some (.lst [.ref c, .int st])) (q : Q (.ref c) H) : tOp (rIx8 K) (tVar 0) (tC (.int 0)) σ H Q :=
  ⟨.ref a, h0, .inl ⟨a, _, 0, .ref c, rfl, rfl, SqL.of ha, at0 _ _, q⟩⟩
theorem read_stir {Q : VK} (h0 : σ[0]? = some (some (.ref a))) (ha : H a = some (.lst [.ref c, .int st])) (q : Q (.int st) H) : tOp (rIx8 K) (tVar 0) (tC (.int 1)) σ H Q :=
  ⟨.ref a, h0, .inl ⟨a, _, 1, .int st, rfl, rfl, SqL.of ha, at1 _ _ _, q⟩⟩
end
def S_law_draw : S8 := fun ds P => ∃ n : Int, ds = [.int n] ∧ 0 < n ∧ n ≤ 1000 ∧ ∀ k, 0 ≤ k → k < n → P (.int k)
/-- all but the draws' two lists is as it was -/
def But (a c : Addr) (H H' : Hp) : Prop := ∀ b o, b ≠ a → b ≠ c → H b = some o → H' b = some o
theorem But.rfl' {a c : Addr} {H : Hp} : But a c H H := fun _ _ _ _ h => h
theorem But.tr {a c : Addr} {H H1 H2 : Hp} (x : But a c H H1) (y : But a c H1 H2) : But a c H H2 := fun b o n1 n2 h => y b o n1 n2 (x b o n1 n2 h)
theorem But.new {a c p : Addr} {H : Hp} {o : HO} (h : H p = none) : But a c H (upd H p o) := fun b u _ _ e => ext_new h b u e
theorem But.ata {a c : Addr} {H : Hp} {o : HO} : But a c H (upd H a o) := fun b u n _ e => by rw [upd_ne n]; exact e
theorem But.atc {a c : Addr} {H : Hp} {o : HO} : But a c H (upd H c o) := fun b u _ n e => by rw [upd_ne n]; exact e
theorem hb_draw {K : PySem.W.Frag} (vs : List V) (H : Hp) (Q : VK) (E : XK) (h : spH S_law_draw vs H Q E) : t_law_draw K { nx := fun _ H' => Q .non H', rt := Q } (L2.start N_law_draw vs) H := by
  obtain ⟨m, a, c, ws, ds, P, rfl, al, ma, mc, ⟨nac, cells0, st, ha0, hc0, hl0, hst⟩, hd, ⟨n, rfl, n0, n1, hP⟩, q⟩ := h
  have ew : ws = [.int n] := dts_ints (ns := [n]) hd
  subst ew
  have done : ∀ (k : Int) (H' : Hp) (cells : List Int) (st : Int), 0 ≤ k → k < n → H' a = some (.lst [.ref c, .int st]) → H' c = some (.lst (cells.map V.int)) → CellsOk cells st → But a c H H' → Q (.int k) H' := fun k H' cells st k0 k1 h1 h2 h3 h4 =>
    q _ _ H' (hP k k0 k1) ⟨nac, cells, st, h1, h2, h3⟩ h4 (.int k)
  -- the while: zeros at the end go
  refine ⟨fun m σ H' => ∃ cells, m = cells.length ∧ σ = [some (.ref a), some (.int n), none] ∧ H' a = some (.lst [.ref c, .int st]) ∧ H' c = some (.lst (cells.map V.int)) ∧ CellsOk cells st ∧ But a c H H', ⟨_, cells0, rfl, rfl, ha0, hc0, ⟨hl0, hst⟩, .rfl'⟩, ?_⟩
  rintro m σ H1 ⟨cells, rfl, rfl, ha, hc, ok, but⟩
  -- what follows the while
  have after : ∀ H2, H2 a = some (.lst [.ref c, .int st]) → H2 c = some (.lst (cells.map V.int)) → But a c H H2 →
      (tSeq (tIfS (tTest (tOp (rNeD K) (tOp (rIx8 K) (tVar 0) (tC (.int 0))) (tLst tNil))) (tSeq (tAsg (tBM0 K "list" rPop (tOp (rIx8 K) (tVar 0) (tC (.int 0)))) (gName 2))
        (tSeq (tDrop (tBM K "list" rAppend (tOp (rIx8 K) (tVar 0) (tC (.int 0))) (tCons (tOp (rI CDiv fun i j => .int (i / j)) (tVar 2) (tVar 1)) tNil)))
        (tRet (tOp (rI (fun _ j => 0 < j) fun i j => .int (i % j)) (tCB rInt8 (tCons (tVar 2) tNil)) (tVar 1))))) tNext)
        (tSeq (tAsg (tOp (rI (fun _ j => 0 < j) fun i j => .int (i % j)) (tCB rInt8 (tCons (tOp (rI0 fun i j => .int (i + j)) (tOp (rI CMul fun i j => .int (i * j)) (tOp (rIx8 K) (tVar 0) (tC (.int 1))) (tC (.int 48271))) (tC (.int 11))) tNil)) (tC (.int 2147483647))) (gSub (tVar 0) (tC (.int 1)) rSetL))
        (tRet (tOp (rI (fun _ j => 0 < j) fun i j => .int (i % j)) (tCB rInt8 (tCons (tOp (rI CDiv fun i j => .int (i / j)) (tOp (rIx8 K) (tVar 0) (tC (.int 1))) (tC (.int 64))) tNil)) (tVar 1)))))
        { nx := fun _ H' => Q .non H', rt := Q } [some (.ref a), some (.int n), none] H2 := fun H2 ha2 hc2 but2 => by
    refine read_some rfl ha2 hc2 fun p hp => ?_
    have na : a ≠ p := ne_of_none ha2 hp
    have nc : c ≠ p := ne_of_none hc2 hp
    have ha3 : upd H2 p (.lst []) a = some (.lst [.ref c, .int st]) := by rw [upd_ne na]; exact ha2
    have hc3 : upd H2 p (.lst []) c = some (.lst (cells.map V.int)) := by rw [upd_ne nc]; exact hc2
    have but3 : But a c H (upd H2 p (.lst [])) := but2.tr (.new hp)
    rcases List.eq_nil_or_concat cells with e | ⟨init, y, e⟩
    · subst e
      refine iteF ?_
      -- heap[1] = ..
      refine ⟨_, rfl, .inl ⟨a, _, 1, .int st, rfl, rfl, SqL.of ha3, at1 _ _ _, st, 48271, rfl, rfl, .inr ⟨by decide, by decide⟩, _, 11, rfl, rfl, .inl ⟨_, rfl, _, 2147483647, rfl, rfl, (show (0 : Int) < 2147483647 by decide), .ref a, rfl, a, _, 1, 1, rfl, rfl, ha3, rfl, ?_⟩⟩⟩
      have r0 : 0 ≤ (st * 48271 + 11) % 2147483647 := Int.emod_nonneg _ (by decide)
      have r1 : (st * 48271 + 11) % 2147483647 < 2147483647 := Int.emod_lt_of_pos _ (by decide)
      refine ⟨.ref a, rfl, .inl ⟨a, [.ref c, .int ((st * 48271 + 11) % 2147483647)], 1, _, rfl, rfl, SqL.of upd_same, at1 _ _ _, _, 64, rfl, rfl, ⟨by decide, by decide⟩, .inl ⟨_, rfl, .int n, rfl, _, n, rfl, rfl, n0, ?_⟩⟩⟩
      refine done _ _ [] _ (Int.emod_nonneg _ (by omega)) (Int.emod_lt_of_pos _ n0) upd_same (by rw [upd_ne nac.symm]; exact hc3) ⟨Nat.zero_le _, r0, r1⟩ (but3.tr .ata)
    · rw [List.concat_eq_append] at e
      subst e
      have hne : (!(init ++ [y]).isEmpty) = true := by cases init <;> rfl
      rw [hne]
      refine iteT ?_
      -- rest = heap[0].pop()
      have hlen : ((init ++ [y]).map V.int).length - 1 = (init.map V.int).length := by simp
      refine read_cells rfl ha3 ⟨.inl ⟨rfl, _, SqL.of hc3⟩, c, _, .int y, rfl, rfl, hc3, ?_, ?_⟩
      · rw [hlen, List.map_append, List.getElem?_append_right (Nat.le_refl _), Nat.sub_self] <;> rfl
      · have ed : ((init ++ [y]).map V.int).dropLast = init.map V.int := by rw [List.map_append]; exact List.dropLast_concat
        rw [ed]
        have ha4 : upd (upd H2 p (.lst [])) c (.lst (init.map V.int)) a = some (.lst [.ref c, .int st]) := by rw [upd_ne nac]; exact ha3
        refine read_cells rfl ha4 ⟨.inl ⟨rfl, _, SqL.of upd_same⟩, .int y, rfl, .int n, rfl, y, n, rfl, rfl, ⟨n0, by omega⟩, c, init.map V.int, _, rfl, rfl, upd_same, ?_, ?_⟩
        · have := ok.1
          rw [List.length_append, List.length_singleton] at this
          rw [List.length_map, sizeLine_eq]; omega
        · refine ⟨.int y, rfl, .inl ⟨y, rfl, .int n, rfl, y, n, rfl, rfl, n0, ?_⟩⟩
          refine done _ _ (init ++ [y / n]) st (Int.emod_nonneg _ (by omega)) (Int.emod_lt_of_pos _ n0) (by rw [upd_ne nac]; exact ha4) (by rw [upd_same, List.map_append] <;> rfl) ⟨?_, ok.2⟩ ((but3.tr .atc).tr .atc)
          have := ok.1
          rw [List.length_append, List.length_singleton] at this ⊢
          exact this
  refine read_some rfl ha hc fun p hp => ?_
  have na : a ≠ p := ne_of_none ha hp
  have nc : c ≠ p := ne_of_none hc hp
  have ha3 : upd H1 p (.lst []) a = some (.lst [.ref c, .int st]) := by rw [upd_ne na]; exact ha
  have hc3 : upd H1 p (.lst []) c = some (.lst (cells.map V.int)) := by rw [upd_ne nc]; exact hc
  have but3 : But a c H (upd H1 p (.lst [])) := but.tr (.new hp)
  rcases List.eq_nil_or_concat cells with e | ⟨init, y, e⟩
  · subst e
    refine iteF (iteF ?_)
    exact after _ ha3 hc3 but3
  · rw [List.concat_eq_append] at e
    subst e
    have hne : (!(init ++ [y]).isEmpty) = true := by cases init <;> rfl
    rw [hne]
    refine iteT ?_
    have hat : atI ((init ++ [y]).map V.int) (-1) = some (.int y) := by rw [List.map_append]; exact atI_last _ _
    refine read_cells rfl ha3 ⟨1, rfl, .inl ⟨c, _, -1, .int y, rfl, rfl, SqL.of hc3, hat, .int y, .int 0, .int y, .int 0, shaped_int y, shaped_int 0, PyData.eqv (.int y) (.int 0), rfl, ?_⟩⟩
    rw [eqv_int]
    by_cases hy : y = 0
    · subst hy
      refine iteT ?_
      refine ⟨_, fun σ' H' hN => hN, ?_⟩
      have hlen : ((init ++ [(0 : Int)]).map V.int).length - 1 = (init.map V.int).length := by simp
      refine read_cells rfl ha3 ⟨.inl ⟨rfl, _, SqL.of hc3⟩, c, _, .int 0, rfl, rfl, hc3, ?_, ?_⟩
      · rw [hlen, List.map_append, List.getElem?_append_right (Nat.le_refl _), Nat.sub_self] <;> rfl
      · have ed : ((init ++ [(0 : Int)]).map V.int).dropLast = init.map V.int := by rw [List.map_append]; exact List.dropLast_concat
        rw [ed]
        refine ⟨init.length, by rw [List.length_append, List.length_singleton]; omega, init, rfl, rfl, by rw [upd_ne nac]; exact ha3, upd_same, ⟨?_, ok.2⟩, but3.tr .atc⟩
        have := ok.1
        rw [List.length_append, List.length_singleton] at this
        omega
    · rw [beq_eq_false_iff_ne.mpr hy]
      exact iteF (after _ ha3 hc3 but3)
end D8
namespace D8
open PySem PySem.Spec PyProof.Rows L2

/-! ### things in a drawn sequence -/
abbrev Plain8 (x : PyData) : Prop := x.canLay0 = true ∧ x.depth ≤ 60
theorem canLay_all : ∀ xs : List PyData, (∀ x ∈ xs, Plain8 x) → PyData.canLayAll0 xs = true
  | [], _ => by simp only [PyData.canLayAll0]
  | x :: xs, h => by
    simp only [PyData.canLayAll0, Bool.and_eq_true]
    exact ⟨(h x List.mem_cons_self).1, canLay_all xs fun y hy => h y (List.mem_cons_of_mem _ hy)⟩
theorem depth_all : ∀ xs : List PyData, (∀ x ∈ xs, Plain8 x) → PyData.depthAll xs ≤ 60
  | [], _ => by simp only [PyData.depthAll]; omega
  | x :: xs, h => by
    simp only [PyData.depthAll]
    exact Nat.max_le.mpr ⟨(h x List.mem_cons_self).2, depth_all xs fun y hy => h y (List.mem_cons_of_mem _ hy)⟩
theorem shaped_plain {xs : List PyData} (h : ∀ x ∈ xs, Plain8 x) : SeqAt.shaped (.list xs) = true := shaped_of (by simp only [PyData.canLay0]; exact canLay_all xs h) (by have := depth_all xs h; simp only [PyData.depth]; omega)
def S_law_mixed : S8 := fun ds P => ∃ xs : List PyData, ds = [.list xs] ∧ xs.length ≤ 900 ∧ (∀ x ∈ xs, Plain8 x) ∧ ∀ ys, ys.Perm xs → P (.list ys)
def w_law_mixed : WS := fun E ρ => ∃ xs : List PyData, ρ = [.heap, .dat (.list xs), .un, .un] ∧ xs.length ≤ 900 ∧ (∀ x ∈ xs, Plain8 x) ∧ ∀ ys, ys.Perm xs → E.rt (.list ys)
theorem cutV_all (xs : List V) : cutV xs none none = xs := by
  unfold cutV
  rw [HT.sIx_none, HT.sIx_none, List.drop_zero, Nat.sub_zero, List.take_length]
theorem cutV_to (k : Nat) (xs : List V) : cutV xs none (some (k : Int)) = xs.take k := by
  unfold cutV
  rw [HT.sIx_nat, HT.sIx_none, List.drop_zero, Nat.sub_zero]
  by_cases h : k ≤ xs.length
  · rw [Nat.min_eq_left h]
  · rw [Nat.min_eq_right (by omega), List.take_of_length_le (Nat.le_refl _), List.take_of_length_le (by omega)]
theorem perm_turn {left found xs : List PyData} {k : Nat} {d : PyData} (h : (left ++ found).Perm xs) (e : left[k]? = some d) : (left.eraseIdx k ++ (found ++ [d])).Perm xs := by
  obtain ⟨hk, hd⟩ := List.getElem?_eq_some_iff.mp e
  have e1 : left.eraseIdx k = left.take k ++ left.drop (k + 1) := List.eraseIdx_eq_take_drop_succ ..
  have e2 : left = left.take k ++ d :: left.drop (k + 1) := by
    have := List.take_append_drop k left
    rw [List.drop_eq_getElem_cons hk, hd] at this
    exact this.symm
  refine List.Perm.trans ?_ h
  rw [e1]
  have p1 : (left.take k ++ d :: left.drop (k + 1)).Perm (d :: (left.take k ++ left.drop (k + 1))) := List.perm_middle
  rw [← e2] at p1
  have p2 : (left ++ found).Perm (d :: (left.take k ++ left.drop (k + 1)) ++ found) := p1.append_right found
  have p3 : (left.take k ++ left.drop (k + 1) ++ (found ++ [d])).Perm (d :: (left.take k ++ left.drop (k + 1) ++ found)) := by
    rw [← List.append_assoc]
    exact List.perm_append_comm (l₂ := [d])
  exact p3.trans p2.symm
theorem snd_law_mixed {K : PySem.W.Frag} : SndS (t_law_mixed K S_law_draw) w_law_mixed := fun F ρ σ H D E ⟨xs, er, hl, hp, hE⟩ s ag => by
  subst er
  obtain ⟨v, hv, dv⟩ := s.dat 1 _ rfl
  have dv2 := dv
  cases dv2 with
  | lst h1 h2 =>
  rename_i b us
  have hb : H b = some (.lst us) := mask_sub _ _ h1
  -- left, found = some[:], []
  refine ⟨.ref b, hv, .inr ⟨b, us, rfl, SqL.of hb, fun l1 hl1 => ?_⟩⟩
  rw [cutV_all]
  refine ⟨Nat.zero_le _, fun l2 hl2 => ⟨.ref l1, .ref l2, rfl, ?_⟩⟩
  have s0 := s.pinAll h2
  have s1 := s0.lay (o := .lst us) hl1
  have s2 := s1.lay (o := .lst []) hl2
  have n21 : l1 ≠ l2 := ne_of_none (show upd H l1 (.lst us) l1 = some (.lst us) from upd_same) hl2
  have m2 : ¬ M8 ((F.pinAll us xs).frz l1 (.lst us)) σ [.heap, .dat (.list xs), .un, .un] l2 := s1.newM hl2
  have m1 : ¬ M8 (F.pinAll us xs) σ [.heap, .dat (.list xs), .un, .un] l1 := s0.newM hl1
  have s3 : St8 ((F.pinAll us xs).frz l1 (.lst us)) [.heap, .dat (.list xs), .un, .own (.lst [])] (σ.set 3 (some (.ref l2))) (upd (upd H l1 (.lst us)) l2 (.lst [])) :=
    s2.adopt (i := 3) (ds := .lst []) ⟨[], rfl, .nil⟩ (s1.newH0 hl2) m2 (show 3 < 4 by decide)
  have m1' : ¬ M8 (F.pinAll us xs) (σ.set 3 (some (.ref l2))) [.heap, .dat (.list xs), .un, .own (.lst [])] l1 := fun z => by
    rcases z with ⟨i, o, e1, e2⟩ | z | z
    · match i, e1 with
      | 3, e1 =>
        have e3 : (σ.set 3 (some (V.ref l2)))[3]? = some (some (.ref l2)) := List.getElem?_set_self (by rw [s.len]; show 3 < 4; decide)
        rw [e3] at e2
        exact n21 (V.ref.inj (Option.some.inj (Option.some.inj e2))).symm
    · exact m1 (.inr (.inl z))
    · exact m1 (.inr (.inr z))
  have s4 : St8 (F.pinAll us xs) [.heap, .dat (.list xs), .own (.lst xs), .own (.lst [])] ((σ.set 3 (some (.ref l2))).set 2 (some (.ref l1))) (upd (upd H l1 (.lst us)) l2 (.lst [])) :=
    s3.adopt (i := 2) (ds := .lst xs) ⟨us, rfl, zip_dts h2.length fun p hp => s3.pins p (List.mem_append_left _ hp)⟩ (s0.newH0 hl1) m1' (show 2 < 4 by decide)
  have s5 := s4.unpinAll
  rw [List.set_comm _ _ (by decide : (3 : Nat) ≠ 2)] at s5
  generalize hσ : (σ.set 2 (some (V.ref l1))).set 3 (some (V.ref l2)) = σ1 at s5
  generalize upd (upd H l1 (.lst us)) l2 (.lst []) = H1 at s5
  -- the while
  refine ⟨fun m σ' H' => ∃ left found, m = left.length ∧ left.length ≤ 900 ∧ (left ++ found).Perm xs ∧ St8 F [.heap, .dat (.list xs), .own (.lst left), .own (.lst found)] σ' H', ⟨_, xs, [], rfl, hl, by rw [List.append_nil], s5⟩, ?_⟩
  rintro m σ' H' ⟨left, found, rfl, hll, pm, st⟩
  have plain : ∀ x ∈ left, Plain8 x := fun x hx => hp x (pm.subset (List.mem_append_left _ hx))
  obtain ⟨a1, _, g1, g2, ls, rfl, g3⟩ := st.own 2 _ rfl
  obtain ⟨a2, _, g4, g5, fs, rfl, g6⟩ := st.own 3 _ rfl
  obtain ⟨ha, hc, hh, g7⟩ := st.hp 0 rfl
  refine ⟨.ref a1, g1, Nat.zero_le _, fun p hp' => ?_⟩
  have sp := st.keep (ext_new (o := .lst []) hp')
  refine ⟨.list left, .list [], .lst (SqL.of (ext_new hp' _ _ g2)) (Dts.dp _ _ (Dts.mono (ext_tr mask_sub (ext_new hp')) _ _ g3)), .lst (SqL.of upd_same) .nil, shaped_plain plain, shaped_nil, _, rfl, ?_⟩
  rw [eqv_nil]
  generalize upd H' p (.lst []) = H2 at sp
  cases left with
  | nil =>
    refine iteF ?_
    -- the end
    have s6 := sp.freeze (i := 3) rfl
    obtain ⟨u, e1, e2⟩ := s6.dat 3 _ rfl
    exact ⟨u, e1, ag.rt _ _ _ _ _ (hE _ pm) s6 e2⟩
  | cons x left =>
    refine iteT ⟨_, fun σ2 H3 hN => hN, ?_⟩
    obtain ⟨b1, _, k1, k2, ls2, rfl, k3⟩ := sp.own 2 _ rfl
    obtain ⟨b2, _, k4, k5, fs2, rfl, k6⟩ := sp.own 3 _ rfl
    rw [g1] at k1; cases k1
    rw [g4] at k4; cases k4
    refine ⟨.ref a2, g4, .inl ⟨rfl, _, SqL.of k5⟩, .ref a1, g1, .inl ⟨rfl, _, SqL.of k2⟩, .ref ha, g7, .ref a1, g1, a1, ls2, rfl, .inl (SqL.of k2), ?_⟩
    -- the draw
    refine ⟨M8 F σ' [.heap, .dat (.list xs), .own (.lst (x :: left)), .own (.lst found)], ha, hc, [.int ls2.length], [.int (x :: left).length], fun d => ∃ k : Int, d = .int k ∧ 0 ≤ k ∧ k < (x :: left).length, by rw [List.append_nil], sp.al, .inr (.inl ⟨ha, hc, hh, .inl rfl⟩), .inr (.inl ⟨ha, hc, hh, .inr rfl⟩), sp.src ha hc hh, by rw [k3.length]; exact .one (.int _), ⟨_, rfl, by rw [List.length_cons]; omega, by omega, fun k h0 h1 => ⟨k, rfl, h0, h1⟩⟩, ?_⟩
    rintro w d H3 ⟨k, rfl, h0, h1⟩ hsrc hbut dw
    have ew := dw.intI
    subst ew
    have s6 : St8 F [.heap, .dat (.list xs), .own (.lst (x :: left)), .own (.lst found)] σ' H3 := sp.go (fun b o n e => hbut b o (fun z => n ⟨ha, hc, hh, .inl z⟩) (fun z => n ⟨ha, hc, hh, .inr z⟩) e) fun y z eyz => by rw [hh] at eyz; cases eyz; exact hsrc
    obtain ⟨b1, _, q1, q2, ls3, rfl, q3⟩ := s6.own 2 _ rfl
    rw [g1] at q1; cases q1
    have hk : k.toNat < (x :: left).length := by omega
    obtain ⟨d, hd⟩ : ∃ d, (x :: left)[k.toNat]? = some d := ⟨_, List.getElem?_eq_getElem hk⟩
    obtain ⟨y, hy, dy⟩ := q3.get hd
    have hix : seqIndex? k ls3.length = some k.toNat := by
      have e : ixN ls3.length k = some k.toNat := by
        unfold ixN
        rw [if_pos h0, if_pos (by rw [q3.length]; exact h1)]
      exact (ixN_seq e).1
    refine ⟨a1, ls3, k, k.toNat, y, rfl, rfl, q2, by omega, by omega, hix, hy, ?_⟩
    -- the append
    have s7 := (s6.pin dy).alter (i := 2) (es := .lst ((x :: left).eraseIdx k.toNat)) rfl g1 ⟨_, rfl, q3.eraseIdx k.toNat⟩
    obtain ⟨b2, _, r1, r2, fs3, rfl, r3⟩ := s7.own 3 (.lst found) rfl
    rw [g4] at r1; cases r1
    have s8 := s7.alter (i := 3) (ds := .lst found) (es := .lst (found ++ [d])) rfl g4 ⟨_, rfl, r3.append (.one s7.pinned)⟩
    have len := pm.length_eq
    rw [List.length_append] at len
    refine ⟨a2, fs3, y, rfl, rfl, r2, ?_, (x :: left).length - 1, by rw [List.length_cons]; omega, (x :: left).eraseIdx k.toNat, found ++ [d], ?_, ?_, perm_turn pm hd, s8.unpin⟩
    · rw [r3.length, sizeLine_eq]; omega
    · rw [List.length_eraseIdx, if_pos hk]
    · rw [List.length_eraseIdx, if_pos hk]; omega
theorem hb_mixed {K : PySem.W.Frag} (vs : List V) (H : Hp) (Q : VK) (E : XK) (h : spH S_law_mixed vs H Q E) : t_law_mixed K S_law_draw { nx := fun _ H' => Q .non H', rt := Q } (L2.start N_law_mixed vs) H :=
  run_H (N := N_law_mixed) snd_law_mixed (fun ds P ⟨xs, e, h1, h2, h3⟩ => by subst e; exact ⟨xs, rfl, h1, h2, h3⟩) h
end D8
namespace D8
open PySem PySem.Spec PyProof.Rows L2

/-! ### the heap made of a script -/
def spHeap (K : PySem.W.Frag) : Sp := fun vs H Q _ => ∃ (s : Addr) (ns : List Int), vs = [.ref s] ∧ SqL K H s (ns.map V.int) ∧ ns.length ≤ 63 ∧ ∀ p c H', Ext8 H H' → H p = none → H c = none → Src p c H' → Q (.ref p) H'
theorem getI {ns : List Int} {i : Nat} {x : V} (h : (ns.map V.int)[i]? = some x) : ∃ n, ns[i]? = some n ∧ x = .int n := by
  rw [List.getElem?_map] at h
  obtain ⟨n, h1, h2⟩ := Option.map_eq_some_iff.mp h
  exact ⟨n, h1, h2.symm⟩
theorem take_snoc {α : Type} {l : List α} {i : Nat} {x : α} (h : l[i]? = some x) : l.take (i + 1) = l.take i ++ [x] := by rw [List.take_add_one, h] <;> rfl
theorem sqE {K : PySem.W.Frag} {H H' : Hp} {a : Addr} {xs : List V} (e : Ext8 H H') (h : SqL K H a xs) : SqL K H' a xs := by
  rcases h with (h | ⟨o, h⟩) | h
  · exact .inl (.inl (e _ _ h))
  · exact .inl (.inr ⟨o, e _ _ h⟩)
  · exact .inr h
theorem hb_heap {K : PySem.W.Frag} (vs : List V) (H : Hp) (Q : VK) (E : XK) (h : spHeap K vs H Q E) : t_law_heap K { nx := fun _ H' => Q .non H', rt := Q } (L2.start N_law_heap vs) H := by
  obtain ⟨s, ns, rfl, hS, hlen, q⟩ := h
  let ab : Int → Int := fun i => if i < 0 then -i else i
  -- [abs(cell) for cell in script[:60]], 26681
  refine ⟨.ref s, rfl, 60, rfl, .inr ⟨s, ns.map V.int, rfl, hS, fun s1 hs1 => ⟨s1, rfl, .inl ⟨⟨_, SqL.of upd_same⟩, fun L hL => ?_⟩⟩⟩⟩
  have ex1 : Ext8 H (upd H s1 (.lst (cutV (ns.map V.int) none (some 60)))) := ext_new hs1
  have nL : s1 ≠ L := ne_of_none upd_same hL
  have e60 : cutV (ns.map V.int) none (some 60) = (ns.take 60).map V.int := by
    rw [List.map_take]; exact cutV_to 60 _
  rw [e60] at hL ex1 ⊢
  have hL0 : H L = none := ext_back ex1 hL
  refine lc_list (K := K) (a := s1) (xs := (ns.take 60).map V.int) (fun i H' => Ext8 H H' ∧ H' s1 = some (.lst ((ns.take 60).map V.int)) ∧ H' L = some (.lst ((((ns.take 60).take i).map ab).map V.int))) ⟨ext_tr ex1 (ext_new hL), by rw [upd_ne nL]; exact upd_same, upd_same⟩ (fun i H' _ p => SqL.of p.2.1) (fun i x H' hx ⟨p1, p2, p3⟩ => ?_) (fun H1 ⟨p1, p2, p3⟩ => ?_)
  · obtain ⟨n, hn, rfl⟩ := getI hx
    refine ⟨rfl, ?_⟩
    refine ⟨.int n, rfl, n, rfl, _, p3, ?_, ?_⟩
    · rw [List.length_map, List.length_map, List.length_take, List.length_take, sizeLine_eq]
      exact Nat.lt_of_le_of_lt (Nat.min_le_right _ _) (Nat.lt_of_le_of_lt (Nat.min_le_left _ _) (by omega))
    · refine ⟨fun b o e => ?_, ?_, ?_⟩
      · rw [upd_ne (ne_of_none e hL0)]; exact p1 b o e
      · rw [upd_ne nL]; exact p2
      · rw [upd_same, take_snoc hn, List.map_append, List.map_append] <;> rfl
  rw [List.length_map, List.take_length] at p3
  refine ⟨_, _, rfl, ?_⟩
  generalize hcs : (ns.take 60).map ab = cs at p3
  have hcl : cs.length ≤ 63 := by
    rw [← hcs, List.length_map, List.length_take]
    exact Nat.le_trans (Nat.min_le_left _ _) (by omega)
  -- the stir
  refine ⟨.ref L, rfl, L, rfl, .inl ⟨⟨_, SqL.of p3⟩, ?_⟩⟩
  refine for_list (K := K) (a := L) (xs := cs.map V.int) (fun i σ H' => ∃ x st, σ = [some (.ref s), x, some (.ref L), some (.int st)] ∧ H' = H1 ∧ 0 ≤ st ∧ st < 2147483647) ⟨none, 26681, rfl, rfl, by decide, by decide⟩ (fun i σ H' _ ⟨x, st, e1, e2, _⟩ => by rw [e2]; exact SqL.of p3) (fun i x σ H' hx ⟨y, st, e1, e2, h1, h2⟩ => ?_) (fun σ H' ⟨x, st, e1, e2, h1, h2⟩ => ?_)
  · subst e1 e2
    obtain ⟨n, hn, rfl⟩ := getI hx
    refine ⟨.int st, rfl, st, 48271, rfl, rfl, .inr ⟨by decide, by decide⟩, .int n, rfl, .inl ⟨n, rfl, n, 2147483563, rfl, rfl, (show (0 : Int) < 2147483563 by decide), _, _, rfl, rfl, _, 97, rfl, rfl, .inl ⟨_, rfl, _, 2147483647, rfl, rfl, (show (0 : Int) < 2147483647 by decide), ?_⟩⟩⟩
    exact ⟨_, _, rfl, rfl, Int.emod_nonneg _ (by decide), Int.emod_lt_of_pos _ (by decide)⟩
  subst e1 e2
  -- the great cells, turned round
  refine ⟨.ref L, rfl, L, rfl, .inl ⟨⟨_, SqL.of p3⟩, fun D hD => ?_⟩⟩
  have nLD : L ≠ D := ne_of_none p3 hD
  refine lc_list (K := K) (a := L) (xs := cs.map V.int) (fun i H2 => Ext8 H' H2 ∧ H2 D = some (.lst (((cs.take i).filter fun n => decide (10 ^ 18 ≤ n)).map V.int))) ⟨ext_new hD, upd_same⟩ (fun i H2 _ p => SqL.of (p.1 _ _ p3)) (fun i y H2 hy ⟨r1, r2⟩ => ?_) (fun H2 ⟨r1, r2⟩ => ?_)
  · obtain ⟨n, hn, rfl⟩ := getI hy
    refine ⟨rfl, ?_⟩
    refine ⟨.int n, rfl, 10, 18, rfl, rfl, ⟨by decide, by decide, by decide⟩, n, _, rfl, rfl, decide ((10 : Int) ^ (18 : Int).toNat ≤ n), rfl, ?_⟩
    have e18 : ((10 : Int) ^ (18 : Int).toNat) = 10 ^ 18 := rfl
    rw [e18]
    by_cases hg : (10 : Int) ^ 18 ≤ n
    · rw [decide_eq_true hg]
      refine ⟨.int n, rfl, _, r2, ?_, fun b o e => ?_, ?_⟩
      · rw [List.length_map, sizeLine_eq]
        have := List.length_filter_le (fun n => decide ((10 : Int) ^ 18 ≤ n)) (cs.take i)
        rw [List.length_take] at this
        have := Nat.min_le_right i cs.length
        omega
      · rw [upd_ne (ne_of_none e hD)]; exact r1 b o e
      · rw [upd_same, take_snoc hn, List.filter_append, List.filter_cons, if_pos (decide_eq_true hg), List.map_append] <;> rfl
    · rw [decide_eq_false hg]
      refine ⟨r1, ?_⟩
      rw [r2, take_snoc hn, List.filter_append, List.filter_cons, if_neg (by rw [decide_eq_false hg]; exact Bool.false_ne_true)]
      simp
  rw [List.length_map, List.take_length] at r2
  refine ⟨D, _, rfl, SqL.of r2, fun R hR => ⟨.int st, rfl, (show 2 ≤ sizeLine by decide), fun p hp => ?_⟩⟩
  have ex2 : Ext8 H H2 := ext_tr p1 r1
  have ex3 := ext_new (o := .lst (((cs.filter fun n => decide ((10 : Int) ^ 18 ≤ n)).map V.int).reverse)) hR
  have ex4 := ext_new (o := .lst [.ref R, .int st]) hp
  refine q p R _ (ext_tr ex2 (ext_tr ex3 ex4)) (ext_back (ext_tr ex2 ex3) hp) (ext_back ex2 hR) ⟨fun e => ?_, (cs.filter fun n => decide ((10 : Int) ^ 18 ≤ n)).reverse, st, upd_same, ?_, ?_, h1, h2⟩
  · rw [e, upd_same] at hp; cases hp
  · rw [List.map_reverse]; exact ex4 _ _ upd_same
  · rw [List.length_reverse]
    exact Nat.le_trans (List.length_filter_le _ _) hcl
end D8
namespace D8
open PySem PySem.Spec PyProof.Rows L2

/-! ### order of names -/
def lt8 (a b : Str) : Prop := a.cps.toList < b.cps.toList
theorem str_ext {a b : Str} (h : a.cps.toList = b.cps.toList) : a = b := PySem.Str.ext' (Array.toList_inj.mp h)
theorem lt8_irr (a : Str) : ¬ lt8 a a := List.lt_irrefl _
theorem lt8_tr {a b c : Str} (h : lt8 a b) (g : lt8 b c) : lt8 a c := List.lt_trans h g
theorem lt8_tot {a b : Str} (h : ¬ lt8 b a) (n : a ≠ b) : lt8 a b := by
  by_cases g : lt8 a b
  · exact g
  · exact absurd (str_ext (List.le_antisymm (List.not_lt.mp h) (List.not_lt.mp g))) n
theorem rising_up : ∀ (p : Str) (l : List Str), risingS p l = true → (p :: l).Nodup → (p :: l).Pairwise lt8
  | p, [], _, _ => List.pairwise_singleton _ _
  | p, x :: r, h, hn => by
    have h : (!ltCps x.cps.toList p.cps.toList && risingS x r) = true := h
    rw [Bool.and_eq_true, Bool.not_eq_true', ltCps_eq, decide_eq_false_iff_not] at h
    have hn2 := List.nodup_cons.mp hn
    have ih := rising_up x r h.2 hn2.2
    have px : lt8 p x := lt8_tot h.1 fun e => hn2.1 (e ▸ List.mem_cons_self)
    refine List.pairwise_cons.mpr ⟨fun y hy => ?_, ih⟩
    rcases List.mem_cons.mp hy with e | hy
    · rw [e]; exact px
    · exact lt8_tr px ((List.pairwise_cons.mp ih).1 y hy)
theorem sorted_up {l : List Str} (h : sortedS l = true) (hn : l.Nodup) : l.Pairwise lt8 := by
  cases l with
  | nil => exact List.Pairwise.nil
  | cons p l => exact rising_up p l h hn
/-! ### the eight names -/
def U8 : List Str := ["a", "ab", "b", "size", "sizes", "tall", "zzzzzzzz", "q"]
theorem u8_sok {n : Str} (h : n ∈ U8) : sok n := by
  have : ∀ m ∈ U8, PyData.strOk m = true := by decide +kernel
  exact this n h
theorem len_sub {α : Type} [DecidableEq α] : ∀ {xs ys : List α}, xs.Nodup → (∀ x ∈ xs, x ∈ ys) → xs.length ≤ ys.length
  | [], _, _, _ => Nat.zero_le _
  | x :: xs, ys, hn, hs => by
    have hn2 := List.nodup_cons.mp hn
    have hx := hs x List.mem_cons_self
    have := len_sub (xs := xs) (ys := ys.erase x) hn2.2 fun y hy => (List.mem_erase_of_ne (fun e => hn2.1 (by rw [← e]; exact hy))).mpr (hs y (List.mem_cons_of_mem _ hy))
    rw [List.length_erase_of_mem hx] at this
    have hp : 0 < ys.length := List.length_pos_of_mem hx
    rw [List.length_cons]
    omega
theorem u8_len {xs : List Str} (hn : xs.Nodup) (hs : ∀ x ∈ xs, x ∈ U8) : xs.length ≤ 8 := len_sub hn hs
structure L8 (ls : Lab) : Prop where
  nd : (ls.map (·.1)).Nodup
  u8 : ∀ p ∈ ls, p.1 ∈ U8
structure R8 (rs : List Rw) : Prop where
  up : (rs.map (·.n)).Pairwise lt8
  u8 : ∀ r ∈ rs, r.n ∈ U8
theorem L8.lok {ls : Lab} (h : L8 ls) : Lok ls := fun p hp => u8_sok (h.u8 p hp)
theorem R8.rok {rs : List Rw} (h : R8 rs) : Rok rs := fun p hp => u8_sok (h.u8 p hp)
theorem up_nodup {l : List Str} (h : l.Pairwise lt8) : l.Nodup := List.nodup_iff_pairwise_ne.mpr (h.imp fun {a b} g (e : a = b) => lt8_irr a (by rw [← e] at g; exact g))
theorem R8.nd {rs : List Rw} (h : R8 rs) : (rs.map (·.n)).Nodup := up_nodup h.up
theorem L8.len {ls : Lab} (h : L8 ls) : ls.length ≤ 8 := by
  have := u8_len h.nd (fun x hx => by obtain ⟨p, hp, e⟩ := List.mem_map.mp hx; rw [← e]; exact h.u8 p hp)
  rwa [List.length_map] at this
theorem R8.len {rs : List Rw} (h : R8 rs) : rs.length ≤ 8 := by
  have := u8_len h.nd (fun x hx => by obtain ⟨p, hp, e⟩ := List.mem_map.mp hx; rw [← e]; exact h.u8 p hp)
  rwa [List.length_map] at this
/-! ### rows and labels by name -/
theorem rowOf_mem {rs : List Rw} {n : Str} {r : Rw} (h : rowOf rs n = some r) : r ∈ rs ∧ r.n = n := ⟨List.mem_of_find?_eq_some h, by have := List.find?_some h; exact beq_iff_eq.mp this⟩
theorem rowOf_of {rs : List Rw} {r : Rw} (hn : (rs.map (·.n)).Nodup) (h : r ∈ rs) : rowOf rs r.n = some r := by
  induction rs with
  | nil => cases h
  | cons a rs ih =>
    unfold rowOf at ih ⊢
    rw [List.map_cons] at hn
    have hn2 := List.nodup_cons.mp hn
    rw [List.find?_cons]
    rcases List.mem_cons.mp h with e | h
    · rw [e, beq_self_eq_true]
    · have : ¬ a.n = r.n := fun e => hn2.1 (e ▸ List.mem_map.mpr ⟨r, h, rfl⟩)
      rw [beq_eq_false_iff_ne.mpr this]
      exact ih hn2.2 h
theorem rows_ext : ∀ {rs qs : List Rw}, (rs.map (·.n)).Pairwise lt8 → (qs.map (·.n)).Pairwise lt8 → (∀ r, r ∈ rs ↔ r ∈ qs) → rs = qs
  | [], [], _, _, _ => rfl
  | [], q :: qs, _, _, h => by have := (h q).mpr List.mem_cons_self; cases this
  | r :: rs, [], _, _, h => by have := (h r).mp List.mem_cons_self; cases this
  | r :: rs, q :: qs, h1, h2, h => by
    rw [List.map_cons] at h1 h2
    obtain ⟨a1, b1⟩ := List.pairwise_cons.mp h1
    obtain ⟨a2, b2⟩ := List.pairwise_cons.mp h2
    have e : r = q := by
      rcases List.mem_cons.mp ((h r).mp List.mem_cons_self) with e | m1
      · exact e
      · rcases List.mem_cons.mp ((h q).mpr List.mem_cons_self) with e | m2
        · exact e.symm
        · exact absurd (lt8_tr (a1 _ (List.mem_map.mpr ⟨q, m2, rfl⟩)) (a2 _ (List.mem_map.mpr ⟨r, m1, rfl⟩))) (lt8_irr _)
    subst e
    have : rs = qs := rows_ext b1 b2 fun x => by
      constructor
      · intro hx
        rcases List.mem_cons.mp ((h x).mp (List.mem_cons_of_mem _ hx)) with e | m
        · exact absurd (a1 _ (List.mem_map.mpr ⟨x, hx, rfl⟩)) (by rw [e]; exact lt8_irr _)
        · exact m
      · intro hx
        rcases List.mem_cons.mp ((h x).mpr (List.mem_cons_of_mem _ hx)) with e | m
        · exact absurd (a2 _ (List.mem_map.mpr ⟨x, hx, rfl⟩)) (by rw [e]; exact lt8_irr _)
        · exact m
    rw [this]
def vals (n : Str) (lss : List Lab) : List Int := lss.filterMap fun ls => look ls n
structure Low (vs : List Int) (v : Int) : Prop where
  m : v ∈ vs
  le : ∀ x ∈ vs, v ≤ x
structure Top8 (vs : List Int) (v : Int) : Prop where
  m : v ∈ vs
  le : ∀ x ∈ vs, x ≤ v
theorem low_uniq {vs : List Int} {a b : Int} (h : Low vs a) (g : Low vs b) : a = b := Int.le_antisymm (h.le b g.m) (g.le a h.m)
theorem top_uniq {vs : List Int} {a b : Int} (h : Top8 vs a) (g : Top8 vs b) : a = b := Int.le_antisymm (g.le a h.m) (h.le b g.m)
structure RowAt (vs : List Int) (r : Rw) : Prop where
  k : r.k = vs.length
  lo : Low vs r.lo
  hi : Top8 vs r.hi
def RowIs (vs : List Int) : Option Rw → Prop
  | .none => vs = []
  | .some r => RowAt vs r
def Tells (rs : List Rw) (lss : List Lab) : Prop := ∀ n, RowIs (vals n lss) (rowOf rs n)
theorem RowAt.pos {vs : List Int} {r : Rw} (h : RowAt vs r) : 1 ≤ r.k := by have := h.k; have := List.length_pos_of_mem h.lo.m; omega
theorem RowAt.ord {vs : List Int} {r : Rw} (h : RowAt vs r) : r.lo ≤ r.hi := h.lo.le _ h.hi.m
theorem tells_none {rs : List Rw} {lss : List Lab} {n : Str} (h : Tells rs lss) (e : rowOf rs n = none) : vals n lss = [] := by have := h n; rw [e] at this; exact this
theorem tells_some {rs : List Rw} {lss : List Lab} {n : Str} {r : Rw} (h : Tells rs lss) (e : rowOf rs n = some r) : RowAt (vals n lss) r := by have := h n; rw [e] at this; exact this
theorem tells_uniq {rs qs : List Rw} {lss : List Lab} (h1 : R8 rs) (h2 : R8 qs) (t1 : Tells rs lss) (t2 : Tells qs lss) : rs = qs := by
  have key : ∀ {rs qs : List Rw}, R8 rs → R8 qs → Tells rs lss → Tells qs lss → ∀ r, r ∈ rs → r ∈ qs := fun {rs qs} h1 h2 t1 t2 r hr => by
    have a := tells_some t1 (rowOf_of h1.nd hr)
    cases e : rowOf qs r.n with
    | none =>
      have := tells_none t2 e
      have := a.pos; have := a.k
      simp_all
    | some q =>
      have b := tells_some t2 e
      have hq := rowOf_mem e
      have : r = q := by
        cases r; cases q
        have e1 := a.k.trans b.k.symm
        have e2 := low_uniq a.lo b.lo
        have e3 := top_uniq a.hi b.hi
        have e4 := hq.2
        simp only at e1 e2 e3 e4
        rw [e1, e2, e3, e4]
      rw [this]; exact hq.1
  exact rows_ext h1.up h2.up fun r => ⟨key h1 h2 t1 t2 r, key h2 h1 t2 t1 r⟩
theorem vals_app (n : Str) (a b : List Lab) : vals n (a ++ b) = vals n a ++ vals n b := List.filterMap_append
theorem vals_le (n : Str) (lss : List Lab) : (vals n lss).length ≤ lss.length := List.length_filterMap_le _ _
theorem vals_mem {n : Str} {lss : List Lab} {ls : Lab} {v : Int} (h : ls ∈ lss) (e : look ls n = some v) : v ∈ vals n lss := List.mem_filterMap.mpr ⟨ls, h, e⟩
theorem vals_full {n : Str} : ∀ {lss : List Lab}, (vals n lss).length = lss.length → ∀ ls ∈ lss, ∃ v, look ls n = some v
  | [], _, _, h => by cases h
  | l :: lss, h, ls, hm => by
    have hle := vals_le n lss
    unfold vals at h hle
    cases e : look l n with
    | none => rw [List.filterMap_cons_none (f := fun ls => look ls n) e, List.length_cons] at h; omega
    | some v =>
      rw [List.filterMap_cons_some (f := fun ls => look ls n) e, List.length_cons, List.length_cons] at h
      rcases List.mem_cons.mp hm with e2 | hm
      · exact ⟨v, by rw [e2]; exact e⟩
      · exact vals_full (lss := lss) (by unfold vals; omega) ls hm
theorem vals_full' {n : Str} : ∀ {lss : List Lab}, (∀ ls ∈ lss, ∃ v, look ls n = some v) → (vals n lss).length = lss.length
  | [], _ => rfl
  | l :: lss, h => by
    obtain ⟨v, e⟩ := h l List.mem_cons_self
    have ih := vals_full' (lss := lss) fun ls hl => h ls (List.mem_cons_of_mem _ hl)
    unfold vals at ih ⊢
    rw [List.filterMap_cons_some (f := fun ls => look ls n) e, List.length_cons, List.length_cons, ih]
theorem two_ends {vs : List Int} {a b : Int} (h : Low vs a) (g : Top8 vs b) (hl : vs.length ≤ 2) {v : Int} (hv : v ∈ vs) : v = a ∨ v = b := by
  obtain ⟨am, al⟩ := h
  obtain ⟨bm, bl⟩ := g
  match vs, hl with
  | [], _ => cases hv
  | [x], _ => simp_all
  | [x, y], _ =>
    simp only [List.mem_cons, List.not_mem_nil, or_false] at am bm hv al bl
    have a1 := al x (.inl rfl)
    have a2 := al y (.inr rfl)
    have b1 := bl x (.inl rfl)
    have b2 := bl y (.inr rfl)
    omega
  | _ :: _ :: _ :: _, hl => simp at hl
end D8
namespace D8
open PySem PySem.Spec PyProof.Rows L2

/-! ### verdicts are sound -/
theorem vall_none {ws : List Vd} : vall ws = .none ↔ Vd.none ∈ ws := by
  unfold vall
  by_cases a : Vd.none ∈ ws
  · simp [a]
  · by_cases b : Vd.some ∈ ws <;> simp [a, b]
theorem vall_all {ws : List Vd} : vall ws = .all ↔ ∀ w ∈ ws, w = .all := by
  unfold vall
  by_cases a : Vd.none ∈ ws
  · rw [if_pos a]
    exact ⟨fun h => (by cases h), fun h => (by have := h _ a; cases this)⟩
  · rw [if_neg a]
    by_cases b : Vd.some ∈ ws
    · rw [if_pos b]
      exact ⟨fun h => (by cases h), fun h => (by have := h _ b; cases this)⟩
    · rw [if_neg b]
      refine ⟨fun _ w hw => ?_, fun _ => rfl⟩
      cases w with
      | none => exact absurd hw a
      | all => rfl
      | some => exact absurd hw b
theorem opp_none {v : Vd} : v.opp = .none ↔ v = .all := by cases v <;> simp [Vd.opp]
theorem opp_all {v : Vd} : v.opp = .all ↔ v = .none := by cases v <;> simp [Vd.opp]
theorem opp_some {v : Vd} : v.opp = .some ↔ v = .some := by cases v <;> simp [Vd.opp]
theorem rv_none {r : Rw} {lo hi c : Int} : rv r lo hi c = .none ↔ (hi < r.lo ∨ r.hi < lo ∨ (r.k ≤ 2 ∧ r.lo < lo ∧ hi < r.hi)) := by
  unfold rv
  by_cases a : hi < r.lo ∨ r.hi < lo ∨ (r.k ≤ 2 ∧ r.lo < lo ∧ hi < r.hi)
  · rw [if_pos a]; exact ⟨fun _ => a, fun _ => rfl⟩
  · rw [if_neg a]
    by_cases b : r.k = c ∧ lo ≤ r.lo ∧ r.hi ≤ hi
    · rw [if_pos b]; exact ⟨fun z => (by cases z), fun z => absurd z a⟩
    · rw [if_neg b]; exact ⟨fun z => (by cases z), fun z => absurd z a⟩
theorem rv_all {r : Rw} {lo hi c : Int} : rv r lo hi c = .all ↔ ¬ (hi < r.lo ∨ r.hi < lo ∨ (r.k ≤ 2 ∧ r.lo < lo ∧ hi < r.hi)) ∧ r.k = c ∧ lo ≤ r.lo ∧ r.hi ≤ hi := by
  unfold rv
  by_cases a : hi < r.lo ∨ r.hi < lo ∨ (r.k ≤ 2 ∧ r.lo < lo ∧ hi < r.hi)
  · rw [if_pos a]; exact ⟨fun z => (by cases z), fun z => absurd a z.1⟩
  · rw [if_neg a]
    by_cases b : r.k = c ∧ lo ≤ r.lo ∧ r.hi ≤ hi
    · rw [if_pos b]; exact ⟨fun _ => ⟨a, b⟩, fun _ => rfl⟩
    · rw [if_neg b]; exact ⟨fun z => (by cases z), fun z => absurd z.2 b⟩
mutual
theorem vd_sound {rs : List Rw} {lss : List Lab} (t : Tells rs lss) : ∀ f : Fil, (vd (lss.length : Int) rs f = .none → ∀ ls ∈ lss, lets ls f = false) ∧ (vd (lss.length : Int) rs f = .all → ∀ ls ∈ lss, lets ls f = true)
  | .all => by
    simp only [vd, lets]
    exact ⟨fun z => (by cases z), fun _ _ _ => trivial⟩
  | .has n => by
    simp only [vd, lets]
    cases e : rowOf rs n with
    | none =>
      refine ⟨fun _ ls hl => ?_, fun z => (by cases z)⟩
      cases g : look ls n with
      | none => rfl
      | some v => have := vals_mem hl g; rw [tells_none t e] at this; cases this
    | some r =>
      have a := tells_some t e
      dsimp only
      by_cases hk : r.k = (lss.length : Int)
      · rw [if_pos hk]
        refine ⟨fun z => (by cases z), fun _ ls hl => ?_⟩
        obtain ⟨v, g⟩ := vals_full (n := n) (by have := a.k; omega) ls hl
        rw [g]; rfl
      · rw [if_neg hk]
        exact ⟨fun z => (by cases z), fun z => (by cases z)⟩
  | .rng n lo hi => by
    simp only [vd, lets]
    cases e : rowOf rs n with
    | none =>
      refine ⟨fun _ ls hl => ?_, fun z => (by cases z)⟩
      cases g : look ls n with
      | none => rfl
      | some v => have := vals_mem hl g; rw [tells_none t e] at this; cases this
    | some r =>
      have a := tells_some t e
      dsimp only
      refine ⟨fun z ls hl => ?_, fun z ls hl => ?_⟩
      · cases g : look ls n with
        | none => rfl
        | some v =>
          have hv := vals_mem hl g
          have h1 := a.lo.le v hv
          have h2 := a.hi.le v hv
          refine decide_eq_false ?_
          rcases rv_none.mp z with z | z | ⟨z, z1, z2⟩
          · omega
          · omega
          · have := two_ends a.lo a.hi (by have := a.k; omega) hv
            omega
      · obtain ⟨_, hk, z1, z2⟩ := rv_all.mp z
        obtain ⟨v, g⟩ := vals_full (n := n) (by have := a.k; omega) ls hl
        have hv := vals_mem hl g
        have h1 := a.lo.le v hv
        have h2 := a.hi.le v hv
        rw [g]
        exact decide_eq_true (by omega)
  | .neg f => by
    simp only [vd, lets]
    have ih := vd_sound t f
    refine ⟨fun z ls hl => ?_, fun z ls hl => ?_⟩
    · rw [ih.2 (opp_none.mp z) ls hl]; rfl
    · rw [ih.1 (opp_all.mp z) ls hl]; rfl
  | .con fs => by
    simp only [vd, lets]
    have ih := vds_sound t fs
    rw [vds_map]
    refine ⟨fun z ls hl => ?_, fun z ls hl => ?_⟩
    · obtain ⟨f, hf, e⟩ := List.mem_map.mp (vall_none.mp z)
      rw [letsA_all]
      refine Bool.eq_false_iff.mpr fun h => ?_
      have := List.all_eq_true.mp h f hf
      rw [(ih f hf).1 e ls hl] at this
      cases this
    · rw [letsA_all]
      exact List.all_eq_true.mpr fun f hf => (ih f hf).2 (vall_all.mp z _ (List.mem_map.mpr ⟨f, hf, rfl⟩)) ls hl
  | .dis fs => by
    simp only [vd, lets]
    have ih := vds_sound t fs
    rw [vds_map]
    refine ⟨fun z ls hl => ?_, fun z ls hl => ?_⟩
    · have z := vall_all.mp (opp_none.mp z)
      rw [letsO_any]
      refine Bool.eq_false_iff.mpr fun h => ?_
      obtain ⟨f, hf, e⟩ := List.any_eq_true.mp h
      have := z (vd _ rs f).opp (List.mem_map.mpr ⟨_, List.mem_map.mpr ⟨f, hf, rfl⟩, rfl⟩)
      rw [(ih f hf).1 (opp_all.mp this) ls hl] at e
      cases e
    · obtain ⟨w, hw, e⟩ := List.mem_map.mp (vall_none.mp (opp_all.mp z))
      obtain ⟨f, hf, e2⟩ := List.mem_map.mp hw
      rw [letsO_any]
      exact List.any_eq_true.mpr ⟨f, hf, (ih f hf).2 (by rw [e2]; exact opp_none.mp e) ls hl⟩
theorem vds_sound {rs : List Rw} {lss : List Lab} (t : Tells rs lss) : ∀ fs : List Fil, ∀ f ∈ fs, (vd (lss.length : Int) rs f = .none → ∀ ls ∈ lss, lets ls f = false) ∧ (vd (lss.length : Int) rs f = .all → ∀ ls ∈ lss, lets ls f = true)
  | [], _, h => by cases h
  | g :: fs, f, h => by
    rcases List.mem_cons.mp h with e | h
    · rw [e]; exact vd_sound t g
    · exact vds_sound t fs f h
end
/-! ### parts of a told lot -/
mutual
theorem vd_part {rs r1 : List Rw} {lss l1 : List Lab} (t : Tells rs lss) (t1 : Tells r1 l1) (hs : l1.Sublist lss) (hp : l1 ≠ []) : ∀ f : Fil, (vd (lss.length : Int) rs f = .none → vd (l1.length : Int) r1 f = .none) ∧ (vd (lss.length : Int) rs f = .all → vd (l1.length : Int) r1 f = .all)
  | .all => by
    simp only [vd]
    exact ⟨fun z => (by cases z), fun _ => trivial⟩
  | .has n => by
    have sv : (vals n l1).Sublist (vals n lss) := hs.filterMap _
    simp only [vd]
    cases e : rowOf rs n with
    | none =>
      refine ⟨fun _ => ?_, fun z => (by cases z)⟩
      rw [tells_none t e] at sv
      cases e1 : rowOf r1 n with
      | none => rfl
      | some q => have := (tells_some t1 e1).lo.m; rw [List.sublist_nil.mp sv] at this; cases this
    | some r =>
      have a := tells_some t e
      dsimp only
      by_cases hk : r.k = (lss.length : Int)
      · rw [if_pos hk]
        refine ⟨fun z => (by cases z), fun _ => ?_⟩
        have hf : (vals n l1).length = l1.length := vals_full' fun ls hl => vals_full (n := n) (by have := a.k; omega) ls (hs.subset hl)
        cases e1 : rowOf r1 n with
        | none =>
          rw [tells_none t1 e1] at hf
          exact absurd (List.length_eq_zero_iff.mp hf.symm) hp
        | some q =>
          have b := tells_some t1 e1
          dsimp only
          rw [if_pos (by have := b.k; omega)]
      · rw [if_neg hk]
        exact ⟨fun z => (by cases z), fun z => (by cases z)⟩
  | .rng n lo hi => by
    have sv : (vals n l1).Sublist (vals n lss) := hs.filterMap _
    simp only [vd]
    cases e : rowOf rs n with
    | none =>
      refine ⟨fun _ => ?_, fun z => (by cases z)⟩
      rw [tells_none t e] at sv
      cases e1 : rowOf r1 n with
      | none => rfl
      | some q => have := (tells_some t1 e1).lo.m; rw [List.sublist_nil.mp sv] at this; cases this
    | some r =>
      have a := tells_some t e
      dsimp only
      refine ⟨fun z => ?_, fun z => ?_⟩
      · cases e1 : rowOf r1 n with
        | none => rfl
        | some q =>
          have b := tells_some t1 e1
          dsimp only
          refine rv_none.mpr ?_
          have m1 := sv.subset b.lo.m
          have m2 := sv.subset b.hi.m
          have h1 := a.lo.le _ m1
          have h2 := a.hi.le _ m2
          have h3 := a.lo.le _ m2
          have h4 := a.hi.le _ m1
          have h5 := sv.length_le
          have h6 := a.k
          have h7 := b.k
          rcases rv_none.mp z with z | z | ⟨z, z1, z2⟩
          · exact .inl (by omega)
          · exact .inr (.inl (by omega))
          · have g1 := two_ends a.lo a.hi (by omega) m1
            have g2 := two_ends a.lo a.hi (by omega) m2
            omega
      · obtain ⟨z0, hk, z1, z2⟩ := rv_all.mp z
        have hf : (vals n l1).length = l1.length := vals_full' fun ls hl => vals_full (n := n) (by have := a.k; omega) ls (hs.subset hl)
        cases e1 : rowOf r1 n with
        | none =>
          rw [tells_none t1 e1] at hf
          exact absurd (List.length_eq_zero_iff.mp hf.symm) hp
        | some q =>
          have b := tells_some t1 e1
          dsimp only
          have m1 := sv.subset b.lo.m
          have m2 := sv.subset b.hi.m
          have h1 := a.lo.le _ m1
          have h2 := a.hi.le _ m2
          have h3 := a.lo.le _ m2
          have h4 := a.hi.le _ m1
          have h7 := b.k
          exact rv_all.mpr ⟨by omega, by omega, by omega, by omega⟩
  | .neg f => by
    simp only [vd]
    have ih := vd_part t t1 hs hp f
    exact ⟨fun z => opp_none.mpr (ih.2 (opp_none.mp z)), fun z => opp_all.mpr (ih.1 (opp_all.mp z))⟩
  | .con fs => by
    simp only [vd]
    have ih := vds_part t t1 hs hp fs
    rw [vds_map, vds_map]
    refine ⟨fun z => ?_, fun z => ?_⟩
    · obtain ⟨f, hf, e⟩ := List.mem_map.mp (vall_none.mp z)
      exact vall_none.mpr (List.mem_map.mpr ⟨f, hf, (ih f hf).1 e⟩)
    · refine vall_all.mpr fun w hw => ?_
      obtain ⟨f, hf, e⟩ := List.mem_map.mp hw
      rw [← e]
      exact (ih f hf).2 (vall_all.mp z _ (List.mem_map.mpr ⟨f, hf, rfl⟩))
  | .dis fs => by
    simp only [vd]
    have ih := vds_part t t1 hs hp fs
    rw [vds_map, vds_map, List.map_map, List.map_map]
    refine ⟨fun z => opp_none.mpr (vall_all.mpr fun w hw => ?_), fun z => opp_all.mpr (vall_none.mpr ?_)⟩
    · obtain ⟨f, hf, e⟩ := List.mem_map.mp hw
      rw [← e]
      exact opp_all.mpr ((ih f hf).1 (opp_all.mp (vall_all.mp (opp_none.mp z) _ (List.mem_map.mpr ⟨f, hf, rfl⟩))))
    · obtain ⟨f, hf, e⟩ := List.mem_map.mp (vall_none.mp (opp_all.mp z))
      exact List.mem_map.mpr ⟨f, hf, opp_none.mpr ((ih f hf).2 (opp_none.mp e))⟩
theorem vds_part {rs r1 : List Rw} {lss l1 : List Lab} (t : Tells rs lss) (t1 : Tells r1 l1) (hs : l1.Sublist lss) (hp : l1 ≠ []) : ∀ fs : List Fil, ∀ f ∈ fs, (vd (lss.length : Int) rs f = .none → vd (l1.length : Int) r1 f = .none) ∧ (vd (lss.length : Int) rs f = .all → vd (l1.length : Int) r1 f = .all)
  | [], _, h => by cases h
  | g :: fs, f, h => by
    rcases List.mem_cons.mp h with e | h
    · rw [e]; exact vd_part t t1 hs hp g
    · exact vds_part t t1 hs hp fs f h
end
theorem verd_part {rs r1 : List Rw} {lss l1 : List Lab} (t : Tells rs lss) (t1 : Tells r1 l1) (hs : l1.Sublist lss) (hp : l1 ≠ []) {f : Fil} (h : verd lss.length rs f ≠ .some) : verd l1.length r1 f = verd lss.length rs f := by
  have h1 : ¬ ((l1.length : Int) = 0) := by have := List.length_pos_iff.mpr hp; omega
  have h2 : ¬ ((lss.length : Int) = 0) := by have := List.length_pos_iff.mpr hp; have := hs.length_le; omega
  unfold verd at h ⊢
  rw [if_neg h2] at h ⊢
  rw [if_neg h1]
  obtain ⟨a, b⟩ := vd_part t t1 hs hp f
  cases e : vd (↑lss.length) rs f with
  | none => exact a e
  | all => exact b e
  | some => exact absurd e h
theorem verd_sound {rs : List Rw} {lss : List Lab} (t : Tells rs lss) {f : Fil} {ls : Lab} (hl : ls ∈ lss) : (verd lss.length rs f = .none → lets ls f = false) ∧ (verd lss.length rs f = .all → lets ls f = true) := by
  have h2 : ¬ ((lss.length : Int) = 0) := by have := List.length_pos_of_mem hl; omega
  unfold verd
  rw [if_neg h2]
  exact ⟨fun z => (vd_sound t f).1 z ls hl, fun z => (vd_sound t f).2 z ls hl⟩
end D8
namespace D8
open PySem PySem.Spec PyProof.Rows L2

/-! ### the examples of a told lot -/
def exs (c : Nat) (rs : List Rw) : List Lab := (List.range c).map fun (i : Nat) => (rs.filter fun r => decide ((i : Int) < r.k)).map fun r => (r.n, if i = 0 then r.lo else r.hi)
theorem look_cons {p : Str × Int} {ls : Lab} {n : Str} : look (p :: ls) n = if p.1 = n then some p.2 else look ls n := by
  unfold look
  rw [List.find?_cons]
  by_cases e : p.1 = n
  · rw [if_pos e, e, beq_self_eq_true]; rfl
  · rw [if_neg e, beq_eq_false_iff_ne.mpr e]
theorem rowOf_cons {a : Rw} {rs : List Rw} {n : Str} : rowOf (a :: rs) n = if a.n = n then some a else rowOf rs n := by
  unfold rowOf
  rw [List.find?_cons]
  by_cases e : a.n = n
  · rw [if_pos e, e, beq_self_eq_true]
  · rw [if_neg e, beq_eq_false_iff_ne.mpr e]
theorem look_no {ls : Lab} {n : Str} (h : ∀ p ∈ ls, p.1 ≠ n) : look ls n = none := by
  induction ls with
  | nil => rfl
  | cons a ls ih => rw [look_cons, if_neg (h a List.mem_cons_self)]; exact ih fun p hp => h p (List.mem_cons_of_mem _ hp)
theorem look_rows (p : Rw → Bool) (v : Rw → Int) (n : Str) : ∀ {rs : List Rw}, (rs.map (·.n)).Nodup → look ((rs.filter p).map fun r => (r.n, v r)) n = (rowOf rs n).bind fun r => if p r = true then some (v r) else none
  | [], _ => rfl
  | a :: rs, hn => by
    rw [List.map_cons] at hn
    have hn2 := List.nodup_cons.mp hn
    have ih := look_rows p v n hn2.2
    rw [rowOf_cons]
    by_cases e : a.n = n
    · have none_left : look ((rs.filter p).map fun r => (r.n, v r)) n = none := look_no fun q hq => by
        obtain ⟨r, hr, e2⟩ := List.mem_map.mp hq
        rw [← e2]
        exact fun e3 => hn2.1 (by rw [e]; rw [← e3]; exact List.mem_map.mpr ⟨r, (List.mem_filter.mp hr).1, rfl⟩)
      rw [if_pos e]
      by_cases hp : p a = true
      · rw [List.filter_cons, if_pos hp, List.map_cons, look_cons, if_pos e]
        simp [hp]
      · rw [List.filter_cons, if_neg hp, none_left]
        simp [hp]
    · rw [if_neg e, ← ih]
      by_cases hp : p a = true
      · rw [List.filter_cons, if_pos hp, List.map_cons, look_cons, if_neg e]
      · rw [List.filter_cons, if_neg hp]
theorem fm_congr {α β : Type} {f g : α → Option β} : ∀ {l : List α}, (∀ x ∈ l, f x = g x) → l.filterMap f = l.filterMap g
  | [], _ => rfl
  | a :: l, h => by
    rw [List.filterMap_cons, List.filterMap_cons, h a List.mem_cons_self, fm_congr fun x hx => h x (List.mem_cons_of_mem _ hx)]
theorem part_range (g : Nat → Int) : ∀ c k : Nat, k ≤ c → (List.range c).filterMap (fun i => if i < k then some (g i) else none) = (List.range k).map g
  | 0, k, h => by
    have : k = 0 := by omega
    subst this; rfl
  | c + 1, k, h => by
    rw [List.range_succ, List.filterMap_append]
    by_cases e : k = c + 1
    · subst e
      have ih := part_range g c c (Nat.le_refl _)
      rw [List.range_succ, List.map_append, ← ih]
      congr 1
      · refine fm_congr fun i hi => ?_
        have := List.mem_range.mp hi
        rw [if_pos (by omega), if_pos this]
      · simp
    · rw [part_range g c k (by omega)]
      simp
      omega
theorem RowAt.one {vs : List Int} {r : Rw} (h : RowAt vs r) (e : r.k = 1) : r.lo = r.hi := by
  obtain ⟨hk, ⟨lm, ll⟩, hm, hl⟩ := h
  match vs, hk with
  | [], hk => cases lm
  | [x], _ => simp only [List.mem_singleton] at lm hm; omega
  | _ :: _ :: _, hk => simp only [List.length_cons] at hk; omega
/-- what a row of a lot of c items is like -/
structure RowOk (c : Int) (r : Rw) : Prop where
  k1 : 1 ≤ r.k
  k2 : r.k ≤ c
  ord : r.lo ≤ r.hi
  one : r.k = 1 → r.lo = r.hi
theorem tells_rowOk {rs : List Rw} {lss : List Lab} (t : Tells rs lss) {n : Str} {r : Rw} (e : rowOf rs n = some r) : RowOk lss.length r :=
  have a := tells_some t e
  ⟨a.pos, by have := vals_le n lss; have := a.k; omega, a.ord, a.one⟩
theorem exs_len (c : Nat) (rs : List Rw) : (exs c rs).length = c := by unfold exs; rw [List.length_map, List.length_range]
theorem exs_tells {rs : List Rw} {c : Nat} (hn : (rs.map (·.n)).Nodup) (h : ∀ n r, rowOf rs n = some r → RowOk c r) : Tells rs (exs c rs) := fun n => by
  have ev : vals n (exs c rs) = (List.range c).filterMap fun (i : Nat) => (rowOf rs n).bind fun r => if (i : Int) < r.k then some (if i = 0 then r.lo else r.hi) else none := by
    unfold vals exs
    rw [List.filterMap_map]
    refine fm_congr fun i _ => ?_
    show look _ n = _
    rw [look_rows _ _ n hn]
    simp only [decide_eq_true_eq]
  cases e : rowOf rs n with
  | none =>
    rw [e] at ev
    show vals n (exs c rs) = []
    rw [ev]
    simp
  | some r =>
    have a := h n r e
    rw [e] at ev
    have ek : ((r.k.toNat : Nat) : Int) = r.k := Int.toNat_of_nonneg (by have := a.k1; omega)
    have ev2 : vals n (exs c rs) = (List.range r.k.toNat).map fun i => if i = 0 then r.lo else r.hi := by
      rw [ev, ← part_range (fun i => if i = 0 then r.lo else r.hi) c r.k.toNat (by have := a.k2; omega)]
      refine fm_congr fun i _ => ?_
      show (if (i : Int) < r.k then _ else _) = _
      by_cases g : (i : Int) < r.k
      · rw [if_pos g, if_pos (show i < r.k.toNat by omega)]
      · rw [if_neg g, if_neg (show ¬ i < r.k.toNat by omega)]
    have mem : ∀ x ∈ vals n (exs c rs), x = r.lo ∨ x = r.hi := fun x hx => by
      rw [ev2] at hx
      obtain ⟨i, _, e2⟩ := List.mem_map.mp hx
      by_cases g : i = 0
      · rw [if_pos g] at e2; exact .inl e2.symm
      · rw [if_neg g] at e2; exact .inr e2.symm
    have k1 := a.k1
    have lom : r.lo ∈ vals n (exs c rs) := by
      rw [ev2]; exact List.mem_map.mpr ⟨0, List.mem_range.mpr (by omega), if_pos rfl⟩
    refine ⟨by rw [ev2, List.length_map, List.length_range]; exact ek.symm, ⟨lom, fun x hx => ?_⟩, ⟨?_, fun x hx => ?_⟩⟩
    · have := a.ord; rcases mem x hx with e | e <;> omega
    · by_cases g : r.k = 1
      · rw [← a.one g]; exact lom
      · rw [ev2]; exact List.mem_map.mpr ⟨1, List.mem_range.mpr (by omega), if_neg (by omega)⟩
    · have := a.ord; rcases mem x hx with e | e <;> omega
/-! ### columns: the lots a row may tell of -/
def lists {α : Type} (vs : List α) : Nat → List (List α)
  | 0 => [[]]
  | n + 1 => (lists vs n).flatMap fun l => vs.map fun v => l ++ [v]
theorem lists_mem {α : Type} {vs : List α} : ∀ {n : Nat} {l : List α}, l ∈ lists vs n ↔ l.length = n ∧ ∀ x ∈ l, x ∈ vs
  | 0, l => by
    unfold lists
    rw [List.mem_singleton]
    constructor
    · intro e; subst e; exact ⟨rfl, fun _ h => by cases h⟩
    · intro e; exact List.length_eq_zero_iff.mp e.1
  | n + 1, l => by
    unfold lists
    rw [List.mem_flatMap]
    constructor
    · rintro ⟨a, ha, hl⟩
      obtain ⟨v, hv, e⟩ := List.mem_map.mp hl
      obtain ⟨h1, h2⟩ := lists_mem.mp ha
      subst e
      refine ⟨by rw [List.length_append, h1]; rfl, fun x hx => ?_⟩
      rcases List.mem_append.mp hx with hx | hx
      · exact h2 x hx
      · rw [List.mem_singleton.mp hx]; exact hv
    · rintro ⟨h1, h2⟩
      have hne : l ≠ [] := fun e => by rw [e] at h1; cases h1
      refine ⟨l.dropLast, lists_mem.mpr ⟨by rw [List.length_dropLast]; omega, fun x hx => h2 x (List.dropLast_sublist l |>.subset hx)⟩, List.mem_map.mpr ⟨l.getLast hne, h2 _ (List.getLast_mem hne), List.dropLast_concat_getLast hne⟩⟩
theorem lists_len {α : Type} (vs : List α) : ∀ n : Nat, (lists vs n).length = vs.length ^ n
  | 0 => rfl
  | n + 1 => by
    unfold lists
    have e : ∀ ls : List (List α), (ls.flatMap fun l => vs.map fun v => l ++ [v]).length = ls.length * vs.length := fun ls => by
      induction ls with
      | nil => simp
      | cons a ls ih => rw [List.flatMap_cons, List.length_append, ih, List.length_map, List.length_cons, Nat.succ_mul, Nat.add_comm]
    rw [e, lists_len vs n, Nat.pow_succ]
def rgZ (a b : Int) : List Int := (List.range (b - a).toNat).map fun i => a + (i : Nat)
theorem rgZ_mem {a b x : Int} : x ∈ rgZ a b ↔ a ≤ x ∧ x < b := by
  unfold rgZ
  constructor
  · intro h
    obtain ⟨i, hi, e⟩ := List.mem_map.mp h
    have := List.mem_range.mp hi
    omega
  · intro h
    exact List.mem_map.mpr ⟨(x - a).toNat, List.mem_range.mpr (by omega), by omega⟩
abbrev Col := List (Option Int)
def there (l : Col) : List Int := l.filterMap id
noncomputable def good (r : Rw) (l : Col) : Bool := @decide (RowAt (there l) r) (Classical.propDecidable _)
theorem good_iff {r : Rw} {l : Col} : good r l = true ↔ RowAt (there l) r := @decide_eq_true_iff _ (Classical.propDecidable _)
noncomputable def cols (c : Nat) : Option Rw → List Col
  | .none => [List.replicate c .none]
  | .some r => (lists (.none :: (rgZ r.lo (r.hi + 1)).map some) c).filter (good r)
theorem cols_mem {c : Nat} {r : Rw} {l : Col} : l ∈ cols c (some r) ↔ (l.length = c ∧ ∀ x, some x ∈ l → r.lo ≤ x ∧ x ≤ r.hi) ∧ RowAt (there l) r := by
  unfold cols
  rw [List.mem_filter, lists_mem, good_iff]
  constructor
  · rintro ⟨⟨h1, h2⟩, h3⟩
    refine ⟨⟨h1, fun x hx => ?_⟩, h3⟩
    rcases List.mem_cons.mp (h2 _ hx) with e | h
    · cases e
    · obtain ⟨y, hy, e⟩ := List.mem_map.mp h
      cases e
      have := rgZ_mem.mp hy
      omega
  · rintro ⟨⟨h1, h2⟩, h3⟩
    refine ⟨⟨h1, fun x hx => ?_⟩, h3⟩
    cases x with
    | none => exact List.mem_cons_self
    | some v => exact List.mem_cons_of_mem _ (List.mem_map.mpr ⟨v, rgZ_mem.mpr (by have := h2 v hx; omega), rfl⟩)
theorem there_mem {l : Col} {x : Int} : x ∈ there l ↔ some x ∈ l := by
  unfold there
  rw [List.mem_filterMap]
  exact ⟨fun ⟨a, h, e⟩ => by rw [← e]; exact h, fun h => ⟨_, h, rfl⟩⟩
theorem there_le (l : Col) : (there l).length ≤ l.length := List.length_filterMap_le _ _
theorem there_full : ∀ {l : Col}, (there l).length = l.length → Option.none ∉ l
  | [], _, h => by cases h
  | .none :: l, h, _ => by
    have := there_le l
    have e : there (Option.none :: l) = there l := rfl
    rw [e, List.length_cons] at h
    omega
  | .some v :: l, h, hm => by
    have e : there (some v :: l) = v :: there l := rfl
    rw [e, List.length_cons, List.length_cons] at h
    rcases List.mem_cons.mp hm with e | hm
    · cases e
    · exact there_full (by omega) hm
theorem there_part : ∀ {l : Col}, (there l).length < l.length → Option.none ∈ l
  | [], h => by cases h
  | .none :: l, h => List.mem_cons_self
  | .some v :: l, h => by
    have e : there (some v :: l) = v :: there l := rfl
    rw [e, List.length_cons, List.length_cons] at h
    exact List.mem_cons_of_mem _ (there_part (by omega))
theorem col_some {c : Nat} {r : Rw} (a : RowOk c r) {m : Int} (h1 : r.lo ≤ m) (h2 : m ≤ r.hi) : ∃ l ∈ cols c (some r), 3 ≤ r.k → some m ∈ l := by
  have mk : ∀ vs : List Int, r.k = vs.length → r.lo ∈ vs → r.hi ∈ vs → (∀ v ∈ vs, r.lo ≤ v ∧ v ≤ r.hi) → vs.map some ++ List.replicate (c - vs.length) none ∈ cols c (some r) := fun vs hk hl hh hb => by
    have et : there (vs.map some ++ List.replicate (c - vs.length) none) = vs := by
      unfold there
      rw [List.filterMap_append, List.filterMap_map]
      have : List.filterMap id (List.replicate (c - vs.length) (none : Option Int)) = [] := by
        rw [List.filterMap_eq_nil_iff]
        intro x hx
        exact (List.mem_replicate.mp hx).2
      rw [this, List.append_nil]
      show List.filterMap (fun x => some x) vs = vs
      exact List.filterMap_some
    refine cols_mem.mpr ⟨⟨?_, fun x hx => ?_⟩, ?_⟩
    · rw [List.length_append, List.length_map, List.length_replicate]; have := a.k2; omega
    · rcases List.mem_append.mp hx with hx | hx
      · obtain ⟨y, hy, e⟩ := List.mem_map.mp hx
        cases e
        exact hb _ hy
      · have := (List.mem_replicate.mp hx).2
        cases this
    · rw [et]
      exact ⟨hk, ⟨hl, fun v hv => (hb v hv).1⟩, hh, fun v hv => (hb v hv).2⟩
  have k1 := a.k1
  have od := a.ord
  by_cases g1 : r.k = 1
  · refine ⟨_, mk [r.lo] (by rw [g1]; rfl) (by simp) (by rw [a.one g1]; simp) fun v hv => ?_, fun h => by omega⟩
    have := List.mem_singleton.mp hv
    omega
  · refine ⟨_, mk (r.lo :: r.hi :: List.replicate (r.k.toNat - 2) m) (by simp only [List.length_cons, List.length_replicate]; omega) (by simp) (by simp) fun v hv => ?_, fun h => ?_⟩
    · rcases List.mem_cons.mp hv with e | hv
      · omega
      rcases List.mem_cons.mp hv with e | hv
      · omega
      have := (List.mem_replicate.mp hv).2
      omega
    · refine List.mem_append_left _ (List.mem_map.mpr ⟨m, ?_, rfl⟩)
      exact List.mem_cons_of_mem _ (List.mem_cons_of_mem _ (List.mem_replicate.mpr ⟨by omega, rfl⟩))
/-! ### words of columns -/
def bitA (f : Fil) : Option Int → Bool
  | .none => false
  | .some v => match f with
    | .has _ => true
    | .rng _ lo hi => decide (lo ≤ v ∧ v ≤ hi)
    | _ => false
def wordA (bs : List Bool) : Vd := if bs.any (· == false) = false then .all else if bs.any (· == true) = false then .none else .some
theorem any_false {bs : List Bool} {b : Bool} : bs.any (· == b) = false ↔ ∀ x ∈ bs, x ≠ b := by
  rw [List.any_eq_false]
  constructor <;> intro h x hx <;> have := h x hx <;> simp_all
theorem word_all {bs : List Bool} : wordA bs = .all ↔ ∀ x ∈ bs, x = true := by
  unfold wordA
  by_cases a : bs.any (· == false) = false
  · rw [if_pos a]
    rw [any_false] at a
    exact ⟨fun _ x hx => by have := a x hx; cases x <;> simp_all, fun _ => rfl⟩
  · rw [if_neg a]
    refine ⟨fun h => ?_, fun h => absurd (any_false.mpr fun x hx => ?_) a⟩
    · by_cases b : bs.any (· == true) = false
      · rw [if_pos b] at h; cases h
      · rw [if_neg b] at h; cases h
    · rw [h x hx]; decide
theorem word_none {bs : List Bool} (hp : bs ≠ []) : wordA bs = .none ↔ ∀ x ∈ bs, x = false := by
  unfold wordA
  by_cases a : bs.any (· == false) = false
  · rw [if_pos a]
    rw [any_false] at a
    refine ⟨fun h => (by cases h), fun h => ?_⟩
    obtain ⟨x, l, e⟩ := List.exists_cons_of_ne_nil hp
    have : x ∈ bs := by rw [e]; exact List.mem_cons_self
    exact absurd (h x this) (a x this)
  · rw [if_neg a]
    by_cases b : bs.any (· == true) = false
    · rw [if_pos b]
      rw [any_false] at b
      exact ⟨fun _ x hx => by have := b x hx; cases x <;> simp_all, fun _ => rfl⟩
    · rw [if_neg b]
      refine ⟨fun h => (by cases h), fun h => absurd (any_false.mpr fun x hx => ?_) b⟩
      rw [h x hx]; decide
def nameA : Fil → Option Str
  | .has n => some n
  | .rng n _ _ => some n
  | _ => none
noncomputable def wordsA (c : Nat) (rs : List Rw) (f : Fil) (n : Str) : List Vd := (cols c (rowOf rs n)).map fun l => wordA (l.map (bitA f))
/-- what words may be found when the verdict is v -/
structure Fits (ws : List Vd) (v : Vd) : Prop where
  ne : ws ≠ []
  none : v = .none → ∀ w ∈ ws, w = .none
  all : v = .all → ∀ w ∈ ws, w = .all
  some : v = .some → (∃ w ∈ ws, w ≠ .none) ∧ ∃ w ∈ ws, w ≠ .all
theorem fits_atom {c : Nat} {rs : List Rw} {f : Fil} {n : Str} (hf : nameA f = some n) (hw : f.wf) (hc : 1 ≤ c) (hr : ∀ r, rowOf rs n = some r → RowOk c r) : Fits (wordsA c rs f n) (vd c rs f) := by
  have cne : ∀ {l : Col}, l.length = c → l.map (bitA f) ≠ [] := fun {l} h e => by
    have := congrArg List.length e
    rw [List.length_map, h] at this
    have : c = 0 := this
    omega
  cases er : rowOf rs n with
  | none =>
    have e1 : vd c rs f = .none := by
      cases f with
      | has m => cases hf; simp only [vd]; rw [er]
      | rng m lo hi => cases hf; simp only [vd]; rw [er]
      | all => cases hf
      | neg _ => cases hf
      | con _ => cases hf
      | dis _ => cases hf
    have e2 : wordsA c rs f n = [.none] := by
      unfold wordsA
      rw [er]
      show [wordA ((List.replicate c Option.none).map (bitA f))] = [.none]
      rw [(word_none (cne List.length_replicate)).mpr fun x hx => ?_]
      obtain ⟨o, ho, e⟩ := List.mem_map.mp hx
      rw [(List.mem_replicate.mp ho).2] at e
      exact e.symm
    rw [e1, e2]
    exact ⟨by simp, fun _ w hw => List.mem_singleton.mp hw, fun z => (by cases z), fun z => (by cases z)⟩
  | some r =>
    have a := hr r er
    have k1 := a.k1
    have k2 := a.k2
    have od := a.ord
    have mw : ∀ {l : Col}, l ∈ cols c (some r) → wordA (l.map (bitA f)) ∈ wordsA c rs f n := fun {l} h => by unfold wordsA; rw [er]; exact List.mem_map.mpr ⟨l, h, rfl⟩
    have wm : ∀ {w : Vd}, w ∈ wordsA c rs f n → ∃ l ∈ cols c (some r), wordA (l.map (bitA f)) = w := fun {w} h => by unfold wordsA at h; rw [er] at h; exact List.mem_map.mp h
    obtain ⟨l0, hl0, _⟩ := col_some a (m := r.lo) (Int.le_refl _) od
    have ne0 : wordsA c rs f n ≠ [] := List.ne_nil_of_mem (mw hl0)
    have full : ∀ {l : Col}, l ∈ cols c (some r) → r.k = (c : Int) → Option.none ∉ l := fun {l} h e => by
      obtain ⟨⟨h1, _⟩, h3⟩ := cols_mem.mp h
      exact there_full (by have := h3.k; omega)
    have part : ∀ {l : Col}, l ∈ cols c (some r) → ¬ r.k = (c : Int) → Option.none ∈ l := fun {l} h e => by
      obtain ⟨⟨h1, _⟩, h3⟩ := cols_mem.mp h
      exact there_part (by have := h3.k; omega)
    have notall : ∀ {l : Col} {o : Option Int}, o ∈ l → bitA f o = false → wordA (l.map (bitA f)) ≠ .all := fun {l o} ho hb h => by
      have := word_all.mp h _ (List.mem_map.mpr ⟨o, ho, rfl⟩)
      rw [hb] at this
      cases this
    have notnone : ∀ {l : Col} {o : Option Int}, o ∈ l → bitA f o = true → wordA (l.map (bitA f)) ≠ .none := fun {l o} ho hb h => by
      have := (word_none (fun e => by rw [List.map_eq_nil_iff.mp e] at ho; cases ho)).mp h _ (List.mem_map.mpr ⟨o, ho, rfl⟩)
      rw [hb] at this
      cases this
    have lom : ∀ {l : Col}, l ∈ cols c (some r) → some r.lo ∈ l := fun {l} h => there_mem.mp (cols_mem.mp h).2.lo.m
    have him : ∀ {l : Col}, l ∈ cols c (some r) → some r.hi ∈ l := fun {l} h => there_mem.mp (cols_mem.mp h).2.hi.m
    cases f with
    | has m =>
      cases hf
      have e1 : vd c rs (.has n) = if r.k = (c : Int) then .all else .some := by simp only [vd]; rw [er]
      rw [e1]
      by_cases hk : r.k = (c : Int)
      · rw [if_pos hk]
        refine ⟨ne0, fun z => (by cases z), fun _ w hw => ?_, fun z => (by cases z)⟩
        obtain ⟨l, hl, e⟩ := wm hw
        rw [← e]
        refine word_all.mpr fun x hx => ?_
        obtain ⟨o, ho, e⟩ := List.mem_map.mp hx
        cases o with
        | none => exact absurd ho (full hl hk)
        | some v => exact e.symm
      · rw [if_neg hk]
        exact ⟨ne0, fun z => (by cases z), fun z => (by cases z), fun _ => ⟨⟨_, mw hl0, notnone (lom hl0) rfl⟩, ⟨_, mw hl0, notall (part hl0 hk) rfl⟩⟩⟩
    | rng m lo hi =>
      cases hf
      have hw2 : lo ≤ hi := by simp only [Fil.wf] at hw; exact hw.2
      have e1 : vd c rs (.rng n lo hi) = rv r lo hi c := by simp only [vd]; rw [er]
      rw [e1]
      refine ⟨ne0, fun z w hw => ?_, fun z w hw => ?_, fun z => ?_⟩
      · obtain ⟨l, hl, e⟩ := wm hw
        rw [← e]
        obtain ⟨⟨h1, h2⟩, h3⟩ := cols_mem.mp hl
        refine (word_none (cne h1)).mpr fun x hx => ?_
        obtain ⟨o, ho, e⟩ := List.mem_map.mp hx
        cases o with
        | none => exact e.symm
        | some v =>
          rw [← e]
          have hv := there_mem.mpr ho
          have g1 := h3.lo.le v hv
          have g2 := h3.hi.le v hv
          refine decide_eq_false ?_
          rcases rv_none.mp z with z | z | ⟨z, z1, z2⟩
          · omega
          · omega
          · have := two_ends h3.lo h3.hi (by have := h3.k; omega) hv
            omega
      · obtain ⟨_, hk, z1, z2⟩ := rv_all.mp z
        obtain ⟨l, hl, e⟩ := wm hw
        rw [← e]
        obtain ⟨⟨h1, h2⟩, h3⟩ := cols_mem.mp hl
        refine word_all.mpr fun x hx => ?_
        obtain ⟨o, ho, e⟩ := List.mem_map.mp hx
        cases o with
        | none => exact absurd ho (full hl hk)
        | some v =>
          rw [← e]
          have hv := there_mem.mpr ho
          have g1 := h3.lo.le v hv
          have g2 := h3.hi.le v hv
          exact decide_eq_true (by omega)
      · have n1 : ¬ (hi < r.lo ∨ r.hi < lo ∨ (r.k ≤ 2 ∧ r.lo < lo ∧ hi < r.hi)) := fun q => by rw [rv_none.mpr q] at z; cases z
        have n2 : ¬ (r.k = (c : Int) ∧ lo ≤ r.lo ∧ r.hi ≤ hi) := fun q => by rw [rv_all.mpr ⟨n1, q⟩] at z; cases z
        constructor
        · obtain ⟨l, hl, h3⟩ := col_some a (m := max lo r.lo) (by omega) (by omega)
          refine ⟨_, mw hl, ?_⟩
          by_cases k3 : 3 ≤ r.k
          · exact notnone (h3 k3) (decide_eq_true (by omega))
          · by_cases g : lo ≤ r.lo
            · exact notnone (lom hl) (decide_eq_true (by omega))
            · exact notnone (him hl) (decide_eq_true (by omega))
        · refine ⟨_, mw hl0, ?_⟩
          by_cases hk : r.k = (c : Int)
          · by_cases g : lo ≤ r.lo
            · exact notall (him hl0) (decide_eq_false (by omega))
            · exact notall (lom hl0) (decide_eq_false (by omega))
          · exact notall (part hl0 hk) rfl
    | all => cases hf
    | neg _ => cases hf
    | con _ => cases hf
    | dis _ => cases hf
end D8
namespace D8
open PySem PySem.Spec PyProof.Rows L2
local macro_rules | `(tactic| walk_at "dl") => `(tactic| simp only [wSeq, wIfS, wRet, wAsg, wPar, wNext, wB, wOp, wUn, wNeg, wVar, wC, wIx, wEqD, wNeD, wInD, wNotInD, wI, wTup, wLst, wCons, wNil, wCB, wCall, wCallH, wCal2, wIfE, wAnd, wOr, wNot, wAndV, wOrV, wNotV, wChain, wIsN, wNotN, wgName, wgTup, wgCons, wgNil, wL, wYes, wSl, wPart, wNoPart, wCat, wCatT, wRep,
  wLen, wMin2, wMax2, wAll, wAny, wTupOf, wListOf, wInt1, wOwn, wApp, wFrz, wIxOwn, wDrop, dats, List.map_cons, List.map_nil, List.cons_append, List.nil_append, List.replicate, List.set_cons_zero, List.set_cons_succ, List.getElem?_cons_zero, List.getElem?_cons_succ, Option.some.injEq, Sl.dat.injEq, Sl.own.injEq, exists_eq_left', exists_eq_left, exists_eq_right', exists_eq_right,
  PyData.tuple.injEq, PyData.list.injEq, PyData.int.injEq, PyData.str.injEq, PyData.bool.injEq, List.cons.injEq, reduceCtorEq, false_or, or_false, false_and, and_false, and_true, true_and, exists_const, exists_false, eqv_str, eqv_int, eqv_bool, shaped_int, shaped_bool, and_assoc, exists_and_left, List.length_cons, List.length_nil, Nat.reduceAdd, Nat.zero_add, at0, at1, at2, at3, cut1, cut2, beq_self_eq_true, Bool.not_true, Bool.not_false, Bool.false_eq_true, false_implies, true_implies, forall_const, eq_self_iff_true, forall_eq, forall_eq', Bool.true_eq_false, sw_all_has, sw_all_in, sw_all_not, sw_all_and, sw_all_or, sw_all_none, sw_all_some, sw_has_all, sw_has_in, sw_has_not, sw_has_and, sw_has_or, sw_has_none, sw_has_some, sw_in_all, sw_in_has, sw_in_not, sw_in_and, sw_in_or, sw_in_none, sw_in_some, sw_not_all, sw_not_has, sw_not_in, sw_not_and, sw_not_or, sw_not_none, sw_not_some, sw_and_all, sw_and_has, sw_and_in, sw_and_not, sw_and_or, sw_and_none, sw_and_some, sw_or_all, sw_or_has, sw_or_in, sw_or_not, sw_or_and, sw_or_none, sw_or_some, sw_none_all, sw_none_has, sw_none_in, sw_none_not, sw_none_and, sw_none_or, sw_none_some, sw_some_all, sw_some_has, sw_some_in, sw_some_not, sw_some_and, sw_some_or, sw_some_none, shw_all, shw_has, shw_in, shw_not, shw_and, shw_or, shw_none, shw_some])
local macro_rules | `(tactic| walk_at "sw") => `(tactic| simp only [sw_all_has, sw_all_in, sw_all_not, sw_all_and, sw_all_or, sw_all_none, sw_all_some, sw_has_all, sw_has_in, sw_has_not, sw_has_and, sw_has_or, sw_has_none, sw_has_some, sw_in_all, sw_in_has, sw_in_not, sw_in_and, sw_in_or, sw_in_none, sw_in_some, sw_not_all, sw_not_has, sw_not_in, sw_not_and, sw_not_or, sw_not_none, sw_not_some, sw_and_all, sw_and_has, sw_and_in, sw_and_not, sw_and_or, sw_and_none, sw_and_some, sw_or_all, sw_or_has, sw_or_in, sw_or_not, sw_or_and, sw_or_none, sw_or_some, sw_none_all, sw_none_has, sw_none_in, sw_none_not, sw_none_and, sw_none_or, sw_none_some, sw_some_all, sw_some_has, sw_some_in, sw_some_not, sw_some_and, sw_some_or, sw_some_none, beq_self_eq_true])
/-! ### loops by what went before -/
theorem for_inv {α : Type} {wg : WG} {wb : WS} {E : We8} {ρ : List Sl} (xs : List α) (enc : α → PyData) (J : List α → List Sl → Prop) (h0 : J [] ρ)
    (hs : ∀ pre x post ρ' (N : List Sl → Prop), xs = pre ++ x :: post → J pre ρ' → (∀ ρ3, J (pre ++ [x]) ρ3 → N ρ3) → wg (enc x) ρ' fun ρ2 => wb { nx := N, rt := E.rt, bk := E.nx, ct := N } ρ2)
    (he : ∀ ρ', J xs ρ' → E.nx ρ') :
    ∃ Iv : Nat → List Sl → Prop, Iv 0 ρ ∧ (∀ i d ρ', (xs.map enc)[i]? = some d → Iv i ρ' → wg d ρ' fun ρ2 => wb { nx := Iv (i + 1), rt := E.rt, bk := E.nx, ct := Iv (i + 1) } ρ2) ∧ ∀ ρ', Iv (xs.map enc).length ρ' → E.nx ρ' := by
  refine ⟨fun i ρ' => J (xs.take i) ρ', h0, fun i d ρ' hd hJ => ?_, fun ρ' hJ => ?_⟩
  · rw [List.getElem?_map] at hd
    obtain ⟨x, h1, h2⟩ := Option.map_eq_some_iff.mp hd
    subst h2
    obtain ⟨hi, hx⟩ := List.getElem?_eq_some_iff.mp h1
    have et : xs.take (i + 1) = xs.take i ++ [x] := by rw [List.take_add_one, h1] <;> rfl
    refine hs (xs.take i) x (xs.drop (i + 1)) ρ' _ ?_ hJ fun ρ3 h3 => ?_
    · have := List.take_append_drop i xs
      rw [List.drop_eq_getElem_cons hi, hx] at this
      exact this.symm
    · show J (xs.take (i + 1)) ρ3
      rw [et]; exact h3
  · rw [List.length_map, List.take_length] at hJ
    exact he ρ' hJ
theorem lc_all {α : Type} {wg : WG} {we : WE} {vs : List Nat} {ρ : List Sl} {P : List PyData → Prop} (xs : List α) (enc : α → PyData) (f : α → PyData)
    (hs : ∀ x (Y : PyData → Prop) (N : Prop), x ∈ xs → Y (f x) → wg (enc x) ρ fun ρ2 => wipeR ρ2 vs = ρ ∧ wYes ρ2 fun b => (b = true → we ρ2 Y) ∧ (b = false → N)) (hd : P (xs.map f)) :
    ∃ Iv : Nat → List PyData → Prop, Iv 0 [] ∧ (∀ i acc d, (xs.map enc)[i]? = some d → Iv i acc → wg d ρ fun ρ2 => wipeR ρ2 vs = ρ ∧ wYes ρ2 fun b => (b = true → we ρ2 fun y => Iv (i + 1) (acc ++ [y])) ∧ (b = false → Iv (i + 1) acc)) ∧
      ∀ acc, Iv (xs.map enc).length acc → P acc :=
  lc_map xs enc (fun _ => true) f (fun x Y N hx h1 _ => hs x Y N hx (h1 rfl)) (by rw [List.filter_eq_self.mpr fun _ _ => rfl]; exact hd)
/-- a range as a coded list -/
theorem range_enc (j : Nat) : ((List.range ((j : Int).toNat)).map fun i => PyData.int (i : Nat)) = (List.range j).map fun i => PyData.int (i : Nat) := by rw [Int.toNat_natCast]
/-! ### rows joined -/
def joinR (r q : Rw) : Rw := ⟨r.n, r.k + q.k, if q.lo < r.lo then q.lo else r.lo, if q.hi > r.hi then q.hi else r.hi⟩
theorem joinR_at {v1 v2 : List Int} {r q : Rw} (a : RowAt v1 r) (b : RowAt v2 q) : RowAt (v1 ++ v2) (joinR r q) := by
  obtain ⟨k1, ⟨lm1, l1⟩, hm1, h1⟩ := a
  obtain ⟨k2, ⟨lm2, l2⟩, hm2, h2⟩ := b
  have lc : ∀ x ∈ v1 ++ v2, min r.lo q.lo ≤ x ∧ x ≤ max r.hi q.hi := fun x hx => by
    rcases List.mem_append.mp hx with hx | hx
    · have := l1 x hx; have := h1 x hx; omega
    · have := l2 x hx; have := h2 x hx; omega
  have e1 : (if q.lo < r.lo then q.lo else r.lo) = min r.lo q.lo := by split <;> omega
  have e2 : (if q.hi > r.hi then q.hi else r.hi) = max r.hi q.hi := by split <;> omega
  refine ⟨by show r.k + q.k = _; rw [List.length_append]; omega, ⟨?_, fun x hx => ?_⟩, ?_, fun x hx => ?_⟩
  · show (if q.lo < r.lo then q.lo else r.lo) ∈ _
    split
    · exact List.mem_append_right _ lm2
    · exact List.mem_append_left _ lm1
  · show (if q.lo < r.lo then q.lo else r.lo) ≤ x
    rw [e1]; exact (lc x hx).1
  · show (if q.hi > r.hi then q.hi else r.hi) ∈ _
    split
    · exact List.mem_append_right _ hm2
    · exact List.mem_append_left _ hm1
  · show x ≤ (if q.hi > r.hi then q.hi else r.hi)
    rw [e2]; exact (lc x hx).2
def joinO : Option Rw → Option Rw → Option Rw
  | .none, o => o
  | .some r, .none => .some r
  | .some r, .some q => .some (joinR r q)
def S_row_joined : S8 := fun ds P => ∃ r q, ds = [encR r, encR q] ∧ P (encR (joinR r q))
theorem law_row_joined : ∀ ds P, S_row_joined ds P → w_row_joined { nx := fun _ => P .none, rt := P } (dats ds 0) := by
  rintro ds P ⟨r, q, rfl, p⟩
  unfold w_row_joined
  simp only [encR, joinR] at p ⊢
  walk_at "dl"
  exact ⟨by rw [sizeLine_eq]; omega, p⟩
/-! ### a dict of rows -/
def kvs (ms : List Rw) : List (Str × PyData) := ms.map fun r => (r.n, encR r)
def putR (ms : List Rw) (r : Rw) : List Rw := if (ms.any fun m => m.n == r.n) = true then ms.map (fun m => if m.n = r.n then r else m) else ms ++ [r]
theorem kvs_any (n : Str) : ∀ ms : List Rw, ((kvs ms).any fun p => p.1 == n) = ms.any fun m => m.n == n
  | [] => rfl
  | m :: ms => by
    have := kvs_any n ms
    unfold kvs at this ⊢
    rw [List.map_cons, List.any_cons, List.any_cons, this]
theorem put_kvs (ms : List Rw) (r : Rw) : put8 (kvs ms) r.n (encR r) = kvs (putR ms r) := by
  unfold put8 putR
  rw [kvs_any]
  by_cases e : (ms.any fun m => m.n == r.n) = true
  · rw [if_pos e, if_pos e]
    unfold kvs
    rw [List.map_map, List.map_map]
    refine List.map_congr_left fun m _ => ?_
    show (if m.n = r.n then (m.n, encR r) else (m.n, encR m)) = ((if m.n = r.n then r else m).n, encR (if m.n = r.n then r else m))
    by_cases g : m.n = r.n
    · rw [if_pos g, if_pos g, g]
    · rw [if_neg g, if_neg g]
  · rw [if_neg e, if_neg e]
    unfold kvs
    rw [List.map_append] <;> rfl
theorem look_kvs (n : Str) : ∀ ms : List Rw, look8 (kvs ms) n = (rowOf ms n).map encR
  | [] => rfl
  | m :: ms => by
    have ih := look_kvs n ms
    unfold look8 rowOf kvs at ih ⊢
    rw [List.map_cons, List.find?_cons, List.find?_cons]
    show Option.map _ (match (m.n == n) with | true => some (m.n, encR m) | false => _) = _
    cases h : (m.n == n) with
    | true => rfl
    | false => exact ih
theorem put_names (ms : List Rw) (r : Rw) : (putR ms r).map (·.n) = if (ms.any fun m => m.n == r.n) = true then ms.map (·.n) else ms.map (·.n) ++ [r.n] := by
  unfold putR
  by_cases e : (ms.any fun m => m.n == r.n) = true
  · rw [if_pos e, if_pos e, List.map_map]
    refine List.map_congr_left fun m _ => ?_
    show (if m.n = r.n then r else m).n = m.n
    by_cases g : m.n = r.n
    · rw [if_pos g, g]
    · rw [if_neg g]
  · rw [if_neg e, if_neg e, List.map_append] <;> rfl
theorem any_name {ms : List Rw} {n : Str} : (ms.any fun m => m.n == n) = true ↔ n ∈ ms.map (·.n) := by
  rw [List.any_eq_true, List.mem_map]
  exact ⟨fun ⟨m, h, e⟩ => ⟨m, h, beq_iff_eq.mp e⟩, fun ⟨m, h, e⟩ => ⟨m, h, beq_iff_eq.mpr e⟩⟩
theorem put_nodup {ms : List Rw} (r : Rw) (h : (ms.map (·.n)).Nodup) : ((putR ms r).map (·.n)).Nodup := by
  rw [put_names]
  by_cases e : (ms.any fun m => m.n == r.n) = true
  · rw [if_pos e]; exact h
  · rw [if_neg e]
    refine List.nodup_append.mpr ⟨h, by simp, fun a ha b hb => ?_⟩
    rw [List.mem_singleton.mp hb]
    exact fun e2 => e (any_name.mpr (e2 ▸ ha))
theorem put_sub {ms : List Rw} (r : Rw) (h : ∀ n ∈ ms.map (·.n), n ∈ U8) (hr : r.n ∈ U8) : ∀ n ∈ (putR ms r).map (·.n), n ∈ U8 := by
  rw [put_names]
  by_cases e : (ms.any fun m => m.n == r.n) = true
  · rw [if_pos e]; exact h
  · rw [if_neg e]
    intro n hn
    rcases List.mem_append.mp hn with hn | hn
    · exact h n hn
    · rw [List.mem_singleton.mp hn]; exact hr
theorem rowOf_none {ms : List Rw} {n : Str} : rowOf ms n = none ↔ n ∉ ms.map (·.n) := by
  unfold rowOf
  rw [List.find?_eq_none, List.mem_map]
  exact ⟨fun h ⟨m, hm, e⟩ => h m hm (beq_iff_eq.mpr e), fun h m hm e => h ⟨m, hm, beq_iff_eq.mp e⟩⟩
theorem rowOf_put (r : Rw) (n : Str) : ∀ ms : List Rw, rowOf (putR ms r) n = if r.n = n then some r else rowOf ms n := by
  have h1 : ∀ ms : List Rw, r.n ∈ ms.map (·.n) → rowOf (ms.map fun m => if m.n = r.n then r else m) n = if r.n = n then some r else rowOf ms n := fun ms => by
    induction ms with
    | nil => intro h; cases h
    | cons m ms ih =>
      intro h
      rw [List.map_cons, rowOf_cons]
      by_cases g : m.n = r.n
      · rw [if_pos g]
        by_cases e : r.n = n
        · rw [if_pos e, if_pos e]
        · rw [if_neg e, if_neg e, rowOf_cons, if_neg (by rw [g]; exact e)]
          by_cases z : r.n ∈ ms.map (·.n)
          · rw [ih z, if_neg e]
          · congr 1
            exact (List.map_congr_left fun q hq => if_neg fun e => z (List.mem_map.mpr ⟨q, hq, e⟩)).trans (List.map_id ms)
      · rw [if_neg g, rowOf_cons]
        have hz : r.n ∈ ms.map (·.n) := by
          rw [List.map_cons] at h
          rcases List.mem_cons.mp h with e | h
          · exact absurd e.symm g
          · exact h
        rw [ih hz]
        by_cases e : m.n = n
        · rw [if_pos e, if_pos e, if_neg (fun e2 => g (by rw [e, e2]))]
        · rw [if_neg e, if_neg e]
  have h2 : ∀ ms : List Rw, r.n ∉ ms.map (·.n) → rowOf (ms ++ [r]) n = if r.n = n then some r else rowOf ms n := fun ms => by
    induction ms with
    | nil => intro _; rw [List.nil_append, rowOf_cons]
    | cons m ms ih =>
      intro h
      rw [List.map_cons] at h
      rw [List.cons_append, rowOf_cons, rowOf_cons, ih fun z => h (List.mem_cons_of_mem _ z)]
      by_cases e : m.n = n
      · rw [if_pos e, if_pos e, if_neg (fun e2 => h (by rw [e2, ← e]; exact List.mem_cons_self))]
      · rw [if_neg e, if_neg e]
  intro ms
  unfold putR
  by_cases e : (ms.any fun m => m.n == r.n) = true
  · rw [if_pos e]; exact h1 ms (any_name.mp e)
  · rw [if_neg e]; exact h2 ms fun z => e (any_name.mpr z)
theorem rowOf_map {g : Str → Rw} (hg : ∀ y, (g y).n = y) (n : Str) : ∀ ys : List Str, rowOf (ys.map g) n = if n ∈ ys then some (g n) else none
  | [] => rfl
  | y :: ys => by
    rw [List.map_cons, rowOf_cons, rowOf_map hg n ys, hg]
    by_cases e : y = n
    · subst e; rw [if_pos rfl, if_pos List.mem_cons_self]
    · rw [if_neg e]
      by_cases z : n ∈ ys
      · rw [if_pos z, if_pos (List.mem_cons_of_mem _ z)]
      · rw [if_neg z, if_neg (fun h => by rcases List.mem_cons.mp h with e2 | h2; exact e e2.symm; exact z h2)]
/-! ### joined summaries -/
structure Ms (ms : List Rw) : Prop where
  nd : (ms.map (·.n)).Nodup
  u8 : ∀ n ∈ ms.map (·.n), n ∈ U8
theorem Ms.len {ms : List Rw} (h : Ms ms) : ms.length ≤ 8 := by
  have := u8_len h.nd h.u8
  rwa [List.length_map] at this
theorem Ms.put {ms : List Rw} (h : Ms ms) {r : Rw} (hr : r.n ∈ U8) : Ms (putR ms r) := ⟨put_nodup r h.nd, put_sub r h.u8 hr⟩
theorem Ms.u {ms : List Rw} (h : Ms ms) {r : Rw} (hr : r ∈ ms) : r.n ∈ U8 := h.u8 _ (List.mem_map.mpr ⟨r, hr, rfl⟩)
theorem R8.ms {rs : List Rw} (h : R8 rs) : Ms rs := ⟨h.nd, fun n hn => by obtain ⟨r, hr, e⟩ := List.mem_map.mp hn; rw [← e]; exact h.u8 r hr⟩
def S_joined_summary : S8 := fun ds P => ∃ c1 r1 c2 r2, ds = [encT c1 r1, encT c2 r2] ∧ Ms r1 ∧ Ms r2 ∧ ∀ rs, R8 rs → (∀ n, rowOf rs n = joinO (rowOf r1 n) (rowOf r2 n)) → P (encT (c1 + c2) rs)
theorem joinO_tells {r1 r2 rs : List Rw} {l1 l2 : List Lab} (t1 : Tells r1 l1) (t2 : Tells r2 l2) (h : ∀ n, rowOf rs n = joinO (rowOf r1 n) (rowOf r2 n)) : Tells rs (l1 ++ l2) := fun n => by
  rw [h n, vals_app]
  have a := t1 n
  have b := t2 n
  cases e1 : rowOf r1 n with
  | none =>
    rw [e1] at a
    have a : vals n l1 = [] := a
    rw [a]
    exact b
  | some r =>
    rw [e1] at a
    cases e2 : rowOf r2 n with
    | none =>
      rw [e2] at b
      have b : vals n l2 = [] := b
      rw [b, List.append_nil]
      exact a
    | some q =>
      rw [e2] at b
      exact joinR_at a b
theorem kvs_len (ms : List Rw) : (kvs ms).length = ms.length := by unfold kvs; rw [List.length_map]
theorem law_joined_summary : ∀ ds P, S_joined_summary ds P → w_joined_summary S_row_joined { nx := fun _ => P .none, rt := P } (dats ds 3) := by
  rintro ds P ⟨c1, r1, c2, r2, rfl, h1, h2, p⟩
  unfold w_joined_summary
  have l1 := h1.len
  have l2 := h2.len
  refine ⟨rfl, _, rfl, _, _, _, .inr rfl, rfl, at1 _ _ _, _, .inr rfl, by rw [List.length_map]; omega, fun i acc => acc = kvs (r1.take i), rfl, fun i acc d hd ha => ?_, fun acc ha => ?_⟩
  · rw [List.getElem?_map] at hd
    obtain ⟨r, e1, e2⟩ := Option.map_eq_some_iff.mp hd
    subst e2 ha
    have et : r1.take (i + 1) = r1.take i ++ [r] := by rw [List.take_add_one, e1] <;> rfl
    simp only [encR]
    walk_at "dl"
    refine ⟨rfl, ?_⟩
    show put8 (kvs (r1.take i)) r.n (encR r) = kvs (r1.take (i + 1))
    rw [put_kvs, et]
    unfold putR
    rw [if_neg]
    rw [any_name]
    intro hm
    have hn := h1.nd
    obtain ⟨hi, hx⟩ := List.getElem?_eq_some_iff.mp e1
    have e3 : r1 = r1.take i ++ (r :: r1.drop (i + 1)) := by
      have := List.take_append_drop i r1
      rw [List.drop_eq_getElem_cons hi, hx] at this
      exact this.symm
    rw [e3, List.map_append, List.map_cons] at hn
    exact (List.nodup_append.mp hn).2.2 _ hm _ List.mem_cons_self rfl
  rw [List.length_map, List.take_length] at ha
  subst ha
  refine ⟨(show 3 < 5 by decide), _, rfl, _, _, _, .inr rfl, rfl, at1 _ _ _, _, .inr rfl, for_inv r2 encR (fun pre ρ => ∃ ms x, ρ = [.dat (encT c1 r1), .dat (encT c2 r2), x, .own (.dic (kvs ms)), .un] ∧ Ms ms ∧ ∀ n, rowOf ms n = joinO (rowOf r1 n) (rowOf pre n)) ⟨r1, _, rfl, h1, fun n => by cases e : rowOf r1 n <;> rfl⟩ (fun pre r post ρ' N er hJ k => ?_) fun ρ' hJ => ?_⟩
  · obtain ⟨ms, x, rfl, hm, hr⟩ := hJ
    have hu : r.n ∈ U8 := h2.u (by rw [er]; exact List.mem_append_right _ List.mem_cons_self)
    have nin : rowOf pre r.n = none := rowOf_none.mpr fun hm => by
      have hn := h2.nd
      rw [er, List.map_append, List.map_cons] at hn
      exact (List.nodup_append.mp hn).2.2 _ hm _ List.mem_cons_self rfl
    have hml := hm.len
    have hrm : rowOf ms r.n = rowOf r1 r.n := by rw [hr r.n, nin]; cases rowOf r1 r.n <;> rfl
    have snoc : ∀ n, rowOf (pre ++ [r]) n = if r.n = n then some r else rowOf pre n := fun n => by
      have := rowOf_put r n pre
      unfold putR at this
      rw [if_neg (by rw [any_name]; exact rowOf_none.mp nin)] at this
      exact this
    simp only [wDPut]
    simp only [encR]
    walk_at "dl"
    have er : PyData.tuple [.str r.n, .int r.k, .int r.lo, .int r.hi] = encR r := rfl
    simp only [er]
    have er2 : encR r = PyData.tuple [.str r.n, .int r.k, .int r.lo, .int r.hi] := rfl
    refine ⟨⟨_, rfl⟩, _, rfl, _, _, _, .inr er2, rfl, at0 _ _, kvs ms, r.n, rfl, rfl, _, rfl, fun hb => ?_, fun hb => ?_⟩
    · rw [look_kvs, Option.isSome_map] at hb
      obtain ⟨m, em⟩ := Option.isSome_iff_exists.mp hb
      have mn : (joinR m r).n = r.n := (rowOf_mem em).2
      refine ⟨⟨_, rfl⟩, _, rfl, _, _, _, .inr er2, rfl, at0 _ _, kvs ms, r.n, encR m, rfl, rfl, by rw [look_kvs, em]; rfl, m, r, rfl, kvs ms, rfl, by rw [kvs_len]; omega, k _ ⟨putR ms (joinR m r), .dat (encR r), ?_, hm.put (by rw [mn]; exact hu), fun n => ?_⟩⟩
      · rw [← put_kvs, mn]
      · rw [rowOf_put, mn, snoc]
        by_cases e : r.n = n
        · subst e
          rw [if_pos rfl, if_pos rfl, ← hrm, em]; rfl
        · rw [if_neg e, if_neg e]; exact hr n
    · rw [look_kvs, Option.isSome_map] at hb
      have em : rowOf ms r.n = none := Option.isNone_iff_eq_none.mp (by cases h : rowOf ms r.n <;> simp_all)
      refine ⟨kvs ms, rfl, by rw [kvs_len]; omega, k _ ⟨putR ms r, .dat (encR r), by rw [← put_kvs], hm.put hu, fun n => ?_⟩⟩
      rw [rowOf_put, snoc]
      by_cases e : r.n = n
      · subst e
        rw [if_pos rfl, if_pos rfl, ← hrm, em]; rfl
      · rw [if_neg e, if_neg e]; exact hr n
  · obtain ⟨ms, x, rfl, hm, hr⟩ := hJ
    walk_at "dl"
    have hml := hm.len
    refine ⟨_, .inr rfl, _, at0 _ _, _, .inr rfl, _, at0 _ _, _, rfl, _, rfl, rfl, kvs ms, rfl, by rw [kvs_len]; omega, fun ys hp hs => ⟨_, .inl rfl, ?_, ?_⟩⟩
    · rw [List.length_map, hp.length_eq, List.length_map, kvs_len]; omega
    have en : (kvs ms).map (·.1) = ms.map (·.n) := by unfold kvs; rw [List.map_map] <;> rfl
    rw [en] at hp
    let g : Str → Rw := fun y => match rowOf ms y with | some r => r | none => ⟨y, 0, 0, 0⟩
    have hg : ∀ y, (g y).n = y := fun y => by
      show (match rowOf ms y with | some r => r | none => (⟨y, 0, 0, 0⟩ : Rw)).n = y
      cases e : rowOf ms y with
      | none => rfl
      | some r => exact (rowOf_mem e).2
    refine lc_all ys PyData.str (fun y => encR (g y)) (fun y Y N hy k => ⟨rfl, fun _ => ?_, fun z => nomatch z⟩) ?_
    · refine ⟨⟨_, rfl⟩, _, rfl, kvs ms, y, _, rfl, rfl, ?_, k⟩
      have : rowOf ms y ≠ none := fun e => rowOf_none.mp e (hp.mem_iff.mp hy)
      rw [look_kvs]
      show (rowOf ms y).map encR = some (encR (match rowOf ms y with | some r => r | none => (⟨y, 0, 0, 0⟩ : Rw)))
      cases e : rowOf ms y with
      | none => exact absurd e this
      | some r => rfl
    · refine ⟨by rw [sizeLine_eq]; omega, ?_⟩
      have e1 : ys.map (fun y => encR (g y)) = (ys.map g).map encR := by rw [List.map_map] <;> rfl
      have e2 : (ys.map g).map (·.n) = ys := by
        rw [List.map_map]
        exact (List.map_congr_left fun y _ => hg y).trans (List.map_id ys)
      rw [e1]
      refine p (ys.map g) ⟨by rw [e2]; exact sorted_up hs (hp.nodup_iff.mpr hm.nd), fun r hr => ?_⟩ fun n => ?_
      · obtain ⟨y, hy, e⟩ := List.mem_map.mp hr
        rw [← e, hg]
        exact hm.u8 y (hp.mem_iff.mp hy)
      · rw [← hr n, rowOf_map hg]
        by_cases z : n ∈ ys
        · rw [if_pos z]
          have : rowOf ms n ≠ none := fun e => rowOf_none.mp e (hp.mem_iff.mp z)
          show some (match rowOf ms n with | some r => r | none => (⟨n, 0, 0, 0⟩ : Rw)) = _
          cases e : rowOf ms n with
          | none => exact absurd e this
          | some r => rfl
        · rw [if_neg z]
          exact (rowOf_none.mpr fun h => z (hp.mem_iff.mpr h)).symm
end D8
namespace D8
open PySem PySem.Spec PyProof.Rows L2
local macro_rules | `(tactic| walk_at "dl") => `(tactic| simp only [wSeq, wIfS, wRet, wAsg, wPar, wNext, wB, wOp, wUn, wNeg, wVar, wC, wIx, wEqD, wNeD, wInD, wNotInD, wI, wTup, wLst, wCons, wNil, wCB, wCall, wCallH, wCal2, wIfE, wAnd, wOr, wNot, wAndV, wOrV, wNotV, wChain, wIsN, wNotN, wgName, wgTup, wgCons, wgNil, wL, wYes, wSl, wPart, wNoPart, wCat, wCatT, wRep,
  wLen, wMin2, wMax2, wAll, wAny, wTupOf, wListOf, wInt1, wOwn, wApp, wFrz, wIxOwn, wDrop, dats, List.map_cons, List.map_nil, List.cons_append, List.nil_append, List.replicate, List.set_cons_zero, List.set_cons_succ, List.getElem?_cons_zero, List.getElem?_cons_succ, Option.some.injEq, Sl.dat.injEq, Sl.own.injEq, exists_eq_left', exists_eq_left, exists_eq_right', exists_eq_right,
  PyData.tuple.injEq, PyData.list.injEq, PyData.int.injEq, PyData.str.injEq, PyData.bool.injEq, List.cons.injEq, reduceCtorEq, false_or, or_false, false_and, and_false, and_true, true_and, exists_const, exists_false, eqv_str, eqv_int, eqv_bool, shaped_int, shaped_bool, and_assoc, exists_and_left, List.length_cons, List.length_nil, Nat.reduceAdd, Nat.zero_add, at0, at1, at2, at3, cut1, cut2, beq_self_eq_true, Bool.not_true, Bool.not_false, Bool.false_eq_true, false_implies, true_implies, forall_const, eq_self_iff_true, forall_eq, forall_eq', Bool.true_eq_false, sw_all_has, sw_all_in, sw_all_not, sw_all_and, sw_all_or, sw_all_none, sw_all_some, sw_has_all, sw_has_in, sw_has_not, sw_has_and, sw_has_or, sw_has_none, sw_has_some, sw_in_all, sw_in_has, sw_in_not, sw_in_and, sw_in_or, sw_in_none, sw_in_some, sw_not_all, sw_not_has, sw_not_in, sw_not_and, sw_not_or, sw_not_none, sw_not_some, sw_and_all, sw_and_has, sw_and_in, sw_and_not, sw_and_or, sw_and_none, sw_and_some, sw_or_all, sw_or_has, sw_or_in, sw_or_not, sw_or_and, sw_or_none, sw_or_some, sw_none_all, sw_none_has, sw_none_in, sw_none_not, sw_none_and, sw_none_or, sw_none_some, sw_some_all, sw_some_has, sw_some_in, sw_some_not, sw_some_and, sw_some_or, sw_some_none, shw_all, shw_has, shw_in, shw_not, shw_and, shw_or, shw_none, shw_some])
local macro_rules | `(tactic| walk_at "sw") => `(tactic| simp only [sw_all_has, sw_all_in, sw_all_not, sw_all_and, sw_all_or, sw_all_none, sw_all_some, sw_has_all, sw_has_in, sw_has_not, sw_has_and, sw_has_or, sw_has_none, sw_has_some, sw_in_all, sw_in_has, sw_in_not, sw_in_and, sw_in_or, sw_in_none, sw_in_some, sw_not_all, sw_not_has, sw_not_in, sw_not_and, sw_not_or, sw_not_none, sw_not_some, sw_and_all, sw_and_has, sw_and_in, sw_and_not, sw_and_or, sw_and_none, sw_and_some, sw_or_all, sw_or_has, sw_or_in, sw_or_not, sw_or_and, sw_or_none, sw_or_some, sw_none_all, sw_none_has, sw_none_in, sw_none_not, sw_none_and, sw_none_or, sw_none_some, sw_some_all, sw_some_has, sw_some_in, sw_some_not, sw_some_and, sw_some_or, sw_some_none, beq_self_eq_true])
/-! ### the program's own summary -/
abbrev itemD (it : Int × Lab) : PyData := .tuple [.int it.1, .tuple [], encL it.2]
def oneR (p : Str × Int) : Rw := ⟨p.1, 1, p.2, p.2⟩
theorem rowOf_one (n : Str) : ∀ ls : Lab, rowOf (ls.map oneR) n = (look ls n).map fun v => ⟨n, 1, v, v⟩
  | [] => rfl
  | p :: ls => by
    rw [List.map_cons, rowOf_cons, look_cons]
    show (if p.1 = n then some (oneR p) else _) = _
    by_cases e : p.1 = n
    · rw [if_pos e, if_pos e]
      show some (⟨p.1, 1, p.2, p.2⟩ : Rw) = _
      rw [e]; rfl
    · rw [if_neg e, if_neg e]; exact rowOf_one n ls
theorem one_tells (ls : Lab) : Tells (ls.map oneR) [ls] := fun n => by
  rw [rowOf_one]
  cases e : look ls n with
  | none => show vals n [ls] = []; unfold vals; rw [List.filterMap_cons_none (f := fun ls => look ls n) e] <;> rfl
  | some v =>
    have : vals n [ls] = [v] := by unfold vals; rw [List.filterMap_cons_some (f := fun ls => look ls n) e] <;> rfl
    rw [this]
    exact ⟨rfl, ⟨List.mem_cons_self, fun x hx => by rw [List.mem_singleton.mp hx]; exact Int.le_refl _⟩, List.mem_cons_self, fun x hx => by rw [List.mem_singleton.mp hx]; exact Int.le_refl _⟩
theorem one_ms {ls : Lab} (h : L8 ls) : Ms (ls.map oneR) := by
  have e : (ls.map oneR).map (·.n) = ls.map (·.1) := by rw [List.map_map] <;> rfl
  refine ⟨by rw [e]; exact h.nd, fun n hn => ?_⟩
  rw [e] at hn
  obtain ⟨p, hp, e⟩ := List.mem_map.mp hn
  rw [← e]; exact h.u8 p hp
def S_summary : S8 := fun ds P => ∃ its : List (Int × Lab), ds = [.tuple (its.map itemD)] ∧ (∀ it ∈ its, L8 it.2) ∧ ∀ rs, R8 rs → Tells rs (its.map (·.2)) → P (encT its.length rs)
theorem tells_nil : Tells [] [] := fun _ => rfl
theorem r8_nil : R8 [] := ⟨.nil, fun _ h => nomatch h⟩
theorem law_summary : ∀ ds P, S_summary ds P → w_summary S_joined_summary { nx := fun _ => P .none, rt := P } (dats ds 4) := by
  rintro ds P ⟨its, rfl, hl, p⟩
  unfold w_summary
  walk_at "dl"
  refine ⟨by rw [sizeLine_eq]; omega, by rw [sizeLine_eq]; omega, _, rfl, _, .inr rfl, for_inv its itemD (fun pre ρ => ∃ rs x, ρ = [.dat (.tuple (its.map itemD)), .dat (encT pre.length rs), x, .un, .un] ∧ R8 rs ∧ Tells rs (pre.map (·.2))) ⟨[], _, rfl, r8_nil, tells_nil⟩ (fun pre it post ρ' N er hJ k => ?_) fun ρ' hJ => ?_⟩
  · obtain ⟨rs, x, rfl, h8, ht⟩ := hJ
    have hi : L8 it.2 := hl it (by rw [er]; exact List.mem_append_right _ List.mem_cons_self)
    have h9 := hi.len
    have e9 : (it.2.map fun p => encR (oneR p)) = (it.2.map oneR).map encR := by rw [List.map_map] <;> rfl
    walk_at "dl"
    refine ⟨rfl, _, rfl, _, _, _, .inr rfl, rfl, at2 _ _ _ _, _, .inr rfl, by rw [List.length_map]; omega, lc_all it.2 encP (fun p => encR (oneR p)) (fun q Y N hq k => ?_) ⟨by rw [sizeLine_eq]; omega, pre.length, rs, 1, it.2.map oneR, by rw [e9] <;> rfl, h8.ms, one_ms hi, fun qs h8q hq => k _ ⟨qs, .dat (itemD it), ?_, h8q, ?_⟩⟩⟩
    · simp only [encP]
      walk_at "dl"
      exact ⟨rfl, by rw [sizeLine_eq]; omega, k⟩
    · rw [List.length_append, List.length_singleton]
      rfl
    · rw [List.map_append]
      exact joinO_tells ht (one_tells it.2) hq
  · obtain ⟨rs, x, rfl, h8, ht⟩ := hJ
    walk_at "dl"
    exact p rs h8 ht
/-! ### examples -/
def exAt (rs : List Rw) (i : Nat) : Lab := (rs.filter fun r => decide ((i : Int) < r.k)).map fun r => (r.n, if i = 0 then r.lo else r.hi)
theorem exs_eq (c : Nat) (rs : List Rw) : exs c rs = (List.range c).map (exAt rs) := rfl
def S_example_labels : S8 := fun ds P => ∃ (c : Nat) (rs : List Rw), ds = [encT c rs] ∧ c ≤ 1000 ∧ rs.length ≤ 8 ∧ P (.tuple ((exs c rs).map encL))
theorem law_example_labels : ∀ ds P, S_example_labels ds P → w_example_labels { nx := fun _ => P .none, rt := P } (dats ds 8) := by
  rintro ds P ⟨c, rs, rfl, hc, hl, p⟩
  unfold w_example_labels
  simp only [encT]
  walk_at "dl"
  refine ⟨(show 1 < 9 by decide), _, rfl, _, _, _, .inr rfl, rfl, at0 _ _, c, rfl, by omega, by omega, ?_⟩
  rw [range_enc]
  refine for_inv (List.range c) (fun i => PyData.int (i : Nat)) (fun pre ρ => ∃ x2 x3, ρ = [.dat (.tuple [.int c, .tuple (rs.map encR)]), .own (.lst (pre.map fun i => encL (exAt rs i))), x2, x3, .un, .un, .un, .un, .un]) ⟨_, _, rfl⟩ (fun pre i post ρ' N er hJ k => ?_) fun ρ' hJ => ?_
  · obtain ⟨x2, x3, rfl⟩ := hJ
    walk_at "dl"
    have hpl : pre.length ≤ c := by
      have := congrArg List.length er
      rw [List.length_range, List.length_append, List.length_cons] at this
      omega
    refine ⟨rfl, _, rfl, _, _, _, .inr rfl, rfl, at1 _ _ _, _, .inr rfl, by rw [List.length_map]; omega, lc_map rs encR (fun r => decide ((i : Int) < r.k)) encR (fun r Y N hr k1 k2 => ?_) ?_⟩
    · simp only [encR] at k1 ⊢
      walk_at "dl"
      exact ⟨rfl, k1, k2⟩
    refine ⟨⟨_, rfl⟩, rfl, _, rfl, _, .inl rfl, ?_, lc_all (rs.filter fun r => decide ((i : Int) < r.k)) encR (fun r => encP (r.n, if i = 0 then r.lo else r.hi)) (fun r Y N hr k => ?_) ⟨_, rfl, by rw [List.length_map, sizeLine_eq]; omega, k _ ⟨.dat (.int i), .dat (.list ((rs.filter fun r => decide ((i : Int) < r.k)).map encR)), ?_⟩⟩⟩
    · rw [List.length_map]; have := List.length_filter_le (fun r : Rw => decide ((i : Int) < r.k)) rs; omega
    · simp only [encR, encP] at k ⊢
      walk_at "dl"
      refine ⟨rfl, ?_⟩
      refine ⟨fun z => ⟨by rw [sizeLine_eq]; omega, ?_⟩, fun z => ⟨by rw [sizeLine_eq]; omega, ?_⟩⟩
      · have z := beq_iff_eq.mp z
        rw [if_pos (show i = 0 by omega)] at k; exact k
      · have z := beq_eq_false_iff_ne.mp z
        rw [if_neg (show ¬ i = 0 by omega)] at k; exact k
    · have : (rs.filter fun r => decide ((i : Int) < r.k)).map (fun r => encP (r.n, if i = 0 then r.lo else r.hi)) = (exAt rs i).map encP := by unfold exAt; rw [List.map_map] <;> rfl
      rw [this, List.map_append] <;> rfl
  · obtain ⟨x2, x3, rfl⟩ := hJ
    walk_at "dl"
    exact ⟨_, rfl, by rw [exs_eq, List.map_map] at p; exact p⟩
/-! ### the law's own summary -/
def S_law_summary : S8 := fun ds P => ∃ lss : List Lab, ds = [.list (lss.map encL)] ∧ lss.length ≤ 60 ∧ (∀ ls ∈ lss, L8 ls) ∧ ∀ rs, R8 rs → Tells rs lss → P (encT lss.length rs)
theorem look_list {n : Str} : ∀ {ls : Lab}, (ls.map (·.1)).Nodup → (ls.filter fun p => p.1 == n).map (·.2) = (look ls n).toList
  | [], _ => rfl
  | p :: ls, h => by
    rw [List.map_cons] at h
    have h2 := List.nodup_cons.mp h
    have ih := look_list (n := n) h2.2
    rw [look_cons, List.filter_cons]
    by_cases e : p.1 = n
    · rw [if_pos e, if_pos (beq_iff_eq.mpr e), List.map_cons, ih, look_no fun q hq e2 => h2.1 (by rw [e, ← e2]; exact List.mem_map.mpr ⟨q, hq, rfl⟩)]
      rfl
    · rw [if_neg e, if_neg (by rw [beq_iff_eq]; exact e), ih]
theorem vals_snoc {n : Str} (pre : List Lab) {ls : Lab} (h : (ls.map (·.1)).Nodup) : vals n (pre ++ [ls]) = vals n pre ++ (ls.filter fun p => p.1 == n).map (·.2) := by
  rw [vals_app, look_list h]
  congr 1
theorem look_some_mem {n : Str} {ls : Lab} {v : Int} (h : look ls n = some v) : n ∈ ls.map (·.1) := by
  by_cases z : n ∈ ls.map (·.1)
  · exact z
  · rw [look_no fun p hp e => z (List.mem_map.mpr ⟨p, hp, e⟩)] at h; cases h
theorem look_mem_some {n : Str} {ls : Lab} (h : n ∈ ls.map (·.1)) : ∃ v, look ls n = some v := by
  cases e : look ls n with
  | some v => exact ⟨v, rfl⟩
  | none =>
    unfold look at e
    rw [Option.map_eq_none_iff, List.find?_eq_none] at e
    obtain ⟨p, hp, e2⟩ := List.mem_map.mp h
    exact absurd (beq_iff_eq.mpr e2) (e p hp)
theorem law_law_summary : ∀ ds P, S_law_summary ds P → w_law_summary { nx := fun _ => P .none, rt := P } (dats ds 6) := by
  rintro ds P ⟨lss, rfl, hn, hl, p⟩
  unfold w_law_summary
  walk_at "dl"
  refine ⟨by rw [sizeLine_eq]; omega, _, rfl, _, .inl rfl, for_inv lss encL (fun pre ρ => ∃ (ns : List Str) (x : Sl), ρ = [.dat (.list (lss.map encL)), .dat (.list (ns.map .str)), x, .un, .un, .un, .un] ∧ ns.Nodup ∧ (∀ n ∈ ns, n ∈ U8) ∧ ∀ n, n ∈ ns ↔ ∃ ls ∈ pre, n ∈ ls.map (·.1)) ⟨[], .un, rfl, List.nodup_nil, fun _ h => (nomatch h), fun n => ⟨fun h => (nomatch h), fun ⟨_, h, _⟩ => nomatch h⟩⟩ (fun pre ls post ρ' N er hJ k => ?_) fun ρ' hJ => ?_⟩
  · obtain ⟨ns, x, rfl, hnd, hu, hm⟩ := hJ
    have hi : L8 ls := hl ls (by rw [er]; exact List.mem_append_right _ List.mem_cons_self)
    have h9 := hi.len
    have h8 := u8_len hnd hu
    walk_at "dl"
    refine ⟨rfl, _, rfl, _, .inr rfl, by rw [List.length_map]; omega, lc_map ls encP (fun p => !ns.any (· == p.1)) (fun p => .str p.1) (fun q Y N hq k1 k2 => ?_) ?_⟩
    · have hq8 := u8_sok (hi.u8 q hq)
      simp only [encP]
      walk_at "dl"
      refine ⟨rfl, shaped_str hq8, shaped_strs fun x hx => u8_sok (hu x hx), ?_⟩
      rw [any_strs]
      exact ⟨k1, k2⟩
    · have e1 : (ls.filter fun p => !ns.any (· == p.1)).map (fun p => PyData.str p.1) = ((ls.filter fun p => !ns.any (· == p.1)).map (·.1)).map .str := by rw [List.map_map] <;> rfl
      have mf : ∀ n, n ∈ (ls.filter fun p => !ns.any (· == p.1)).map (·.1) ↔ n ∈ ls.map (·.1) ∧ n ∉ ns := fun n => by
        rw [List.mem_map, List.mem_map]
        constructor
        · rintro ⟨q, hq, e⟩
          obtain ⟨a, b⟩ := List.mem_filter.mp hq
          refine ⟨⟨q, a, e⟩, fun z => ?_⟩
          have : ns.any (· == q.1) = true := List.any_eq_true.mpr ⟨n, z, beq_iff_eq.mpr e.symm⟩
          rw [this] at b
          cases b
        · rintro ⟨⟨q, hq, e⟩, z⟩
          refine ⟨q, List.mem_filter.mpr ⟨hq, ?_⟩, e⟩
          rw [Bool.not_eq_true', List.any_eq_false]
          intro y hy h
          exact z (by rw [← e, ← beq_iff_eq.mp h]; exact hy)
      have nd2 : (ns ++ (ls.filter fun p => !ns.any (· == p.1)).map (·.1)).Nodup := List.nodup_append.mpr ⟨hnd, hi.nd.sublist (List.filter_sublist.map _), fun a ha b hb e => ((mf b).mp hb).2 (e ▸ ha)⟩
      have u2 : ∀ n ∈ ns ++ (ls.filter fun p => !ns.any (· == p.1)).map (·.1), n ∈ U8 := fun n hn => by
        rcases List.mem_append.mp hn with hn | hn
        · exact hu n hn
        · obtain ⟨q, hq, e⟩ := List.mem_map.mp ((mf n).mp hn).1
          rw [← e]; exact hi.u8 q hq
      rw [e1]
      refine ⟨?_, k _ ⟨_, .dat (encL ls), by rw [← List.map_append], nd2, u2, fun n => ?_⟩⟩
      · have := u8_len nd2 u2
        rw [List.length_append] at this
        rw [List.length_map, List.length_map, sizeLine_eq]; omega
      · rw [List.mem_append, mf, hm]
        constructor
        · rintro (⟨a, b, c⟩ | ⟨a, _⟩)
          · exact ⟨a, List.mem_append_left _ b, c⟩
          · exact ⟨ls, List.mem_append_right _ List.mem_cons_self, a⟩
        · rintro ⟨a, b, c⟩
          rcases List.mem_append.mp b with b | b
          · exact .inl ⟨a, b, c⟩
          · rw [List.mem_singleton.mp b] at c
            by_cases z : n ∈ ns
            · exact .inl ((hm n).mp z)
            · exact .inr ⟨c, fun y => z ((hm n).mpr y)⟩
  · obtain ⟨ns, x, rfl, hnd, hu, hm⟩ := hJ
    have h8 := u8_len hnd hu
    walk_at "dl"
    refine ⟨(show 3 < 7 by decide), _, rfl, ns, rfl, by omega, fun ys hp hs => ⟨_, .inl rfl, for_inv ys PyData.str (fun pre ρ => ∃ (rs : List Rw) (x4 x5 x6 : Sl), ρ = [.dat (.list (lss.map encL)), .dat (.list (ns.map .str)), x4, .own (.lst (rs.map encR)), x5, x6, .un] ∧ rs.map (·.n) = pre ∧ ∀ r ∈ rs, RowAt (vals r.n lss) r) ⟨[], _, _, _, rfl, rfl, fun _ h => nomatch h⟩ (fun pre n post ρ' N er hJ k => ?_) fun ρ' hJ => ?_⟩⟩
    · obtain ⟨rs, x4, x5, x6, rfl, hr1, hr2⟩ := hJ
      have hny : n ∈ ys := by rw [er]; exact List.mem_append_right _ List.mem_cons_self
      have hsn := shaped_str (u8_sok (hu n (hp.mem_iff.mp hny)))
      have hpl : rs.length ≤ 8 := by
        have h1 := congrArg List.length er
        have h2 := congrArg List.length hr1
        have h3 := hp.length_eq
        rw [List.length_append, List.length_cons] at h1
        rw [List.length_map] at h2
        omega
      walk_at "dl"
      refine ⟨by rw [sizeLine_eq]; omega, _, rfl, _, .inl rfl, for_inv lss encL (fun pre ρ => ∃ x4, ρ = [.dat (.list (lss.map encL)), .dat (.list (ns.map .str)), x4, .own (.lst (rs.map encR)), .dat (.str n), .dat (.list ((vals n pre).map .int)), .un]) ⟨_, rfl⟩ (fun pre ls post ρ' N er hJ k => ?_) fun ρ' hJ => ?_⟩
      · obtain ⟨x4, rfl⟩ := hJ
        have hi : L8 ls := hl ls (by rw [er]; exact List.mem_append_right _ List.mem_cons_self)
        have h9 := hi.len
        have hpre : pre.length ≤ 60 := by
          have := congrArg List.length er
          rw [List.length_append, List.length_cons] at this
          omega
        walk_at "dl"
        refine ⟨rfl, _, rfl, _, .inr rfl, by rw [List.length_map]; omega, lc_map ls encP (fun p => p.1 == n) (fun p => .int p.2) (fun q Y N hq k1 k2 => ?_) ?_⟩
        · have hq8 := u8_sok (hi.u8 q hq)
          simp only [encP]
          walk_at "dl"
          exact ⟨rfl, shaped_str hq8, hsn, k1, k2⟩
        · have e1 : (ls.filter fun p => p.1 == n).map (fun p => PyData.int p.2) = ((ls.filter fun p => p.1 == n).map (·.2)).map .int := by rw [List.map_map] <;> rfl
          rw [e1]
          refine ⟨?_, k _ ⟨.dat (encL ls), by rw [← List.map_append, vals_snoc pre hi.nd]⟩⟩
          have h1 := vals_le n pre
          have h2 := List.length_filter_le (fun p : Str × Int => p.1 == n) ls
          rw [List.length_map, List.length_map, List.length_map, sizeLine_eq]; omega
      · obtain ⟨x4, rfl⟩ := hJ
        walk_at "dl"
        have hne : ∃ v, v ∈ vals n lss := by
          obtain ⟨ls, h1, h2⟩ := (hm n).mp (hp.mem_iff.mp hny)
          obtain ⟨v, hv⟩ := look_mem_some h2
          exact ⟨v, vals_mem h1 hv⟩
        obtain ⟨v, hv⟩ := hne
        have hvp := List.length_pos_of_mem hv
        refine ⟨⟨_, rfl⟩, _, rfl, hvp, fun lo lm ll => ⟨_, rfl, hvp, fun hi' hm' hl' => ⟨by rw [sizeLine_eq]; omega, _, rfl, by rw [List.length_map, sizeLine_eq]; omega, k _ ⟨rs ++ [⟨n, (vals n lss).length, lo, hi'⟩], x4, .dat (.str n), .dat (.list ((vals n lss).map .int)), ?_, ?_, fun r hr => ?_⟩⟩⟩⟩
        · rw [List.length_map, List.map_append] <;> rfl
        · rw [List.map_append, hr1] <;> rfl
        · rcases List.mem_append.mp hr with hr | hr
          · exact hr2 r hr
          · rw [List.mem_singleton.mp hr]
            exact ⟨rfl, ⟨lm, ll⟩, hm', hl'⟩
    · obtain ⟨rs, x4, x5, x6, rfl, hr1, hr2⟩ := hJ
      walk_at "dl"
      have nd : ys.Nodup := hp.nodup_iff.mpr hnd
      refine ⟨_, rfl, by rw [sizeLine_eq]; omega, ?_⟩
      rw [List.length_map]
      refine p rs ⟨by rw [hr1]; exact sorted_up hs nd, fun r hr => hu _ (hp.mem_iff.mp (by rw [← hr1]; exact List.mem_map.mpr ⟨r, hr, rfl⟩))⟩ fun n => ?_
      cases e : rowOf rs n with
      | some r =>
        obtain ⟨h1, h2⟩ := rowOf_mem e
        have := hr2 r h1
        rw [h2] at this
        exact this
      | none =>
        have h1 := rowOf_none.mp e
        rw [hr1, hp.mem_iff, hm] at h1
        show vals n lss = []
        unfold vals
        rw [List.filterMap_eq_nil_iff]
        intro ls hls
        cases e2 : look ls n with
        | none => rfl
        | some v => exact absurd ⟨ls, hls, look_some_mem e2⟩ h1
end D8
namespace D8
open PySem PySem.Spec PyProof.Rows L2
local macro_rules | `(tactic| walk_at "dl") => `(tactic| simp only [wSeq, wIfS, wRet, wAsg, wPar, wNext, wB, wOp, wUn, wNeg, wVar, wC, wIx, wEqD, wNeD, wInD, wNotInD, wI, wTup, wLst, wCons, wNil, wCB, wCall, wCallH, wCal2, wIfE, wAnd, wOr, wNot, wAndV, wOrV, wNotV, wChain, wIsN, wNotN, wgName, wgTup, wgCons, wgNil, wL, wYes, wSl, wPart, wNoPart, wCat, wCatT, wRep,
  wLen, wMin2, wMax2, wAll, wAny, wTupOf, wListOf, wInt1, wOwn, wApp, wFrz, wIxOwn, wDrop, dats, List.map_cons, List.map_nil, List.cons_append, List.nil_append, List.replicate, List.set_cons_zero, List.set_cons_succ, List.getElem?_cons_zero, List.getElem?_cons_succ, Option.some.injEq, Sl.dat.injEq, Sl.own.injEq, exists_eq_left', exists_eq_left, exists_eq_right', exists_eq_right,
  PyData.tuple.injEq, PyData.list.injEq, PyData.int.injEq, PyData.str.injEq, PyData.bool.injEq, List.cons.injEq, reduceCtorEq, false_or, or_false, false_and, and_false, and_true, true_and, exists_const, exists_false, eqv_str, eqv_int, eqv_bool, shaped_int, shaped_bool, and_assoc, exists_and_left, List.length_cons, List.length_nil, Nat.reduceAdd, Nat.zero_add, at0, at1, at2, at3, cut1, cut2, beq_self_eq_true, Bool.not_true, Bool.not_false, Bool.false_eq_true, false_implies, true_implies, forall_const, eq_self_iff_true, forall_eq, forall_eq', Bool.true_eq_false, sw_all_has, sw_all_in, sw_all_not, sw_all_and, sw_all_or, sw_all_none, sw_all_some, sw_has_all, sw_has_in, sw_has_not, sw_has_and, sw_has_or, sw_has_none, sw_has_some, sw_in_all, sw_in_has, sw_in_not, sw_in_and, sw_in_or, sw_in_none, sw_in_some, sw_not_all, sw_not_has, sw_not_in, sw_not_and, sw_not_or, sw_not_none, sw_not_some, sw_and_all, sw_and_has, sw_and_in, sw_and_not, sw_and_or, sw_and_none, sw_and_some, sw_or_all, sw_or_has, sw_or_in, sw_or_not, sw_or_and, sw_or_none, sw_or_some, sw_none_all, sw_none_has, sw_none_in, sw_none_not, sw_none_and, sw_none_or, sw_none_some, sw_some_all, sw_some_has, sw_some_in, sw_some_not, sw_some_and, sw_some_or, sw_some_none, shw_all, shw_has, shw_in, shw_not, shw_and, shw_or, shw_none, shw_some])
local macro_rules | `(tactic| walk_at "sw") => `(tactic| simp only [sw_all_has, sw_all_in, sw_all_not, sw_all_and, sw_all_or, sw_all_none, sw_all_some, sw_has_all, sw_has_in, sw_has_not, sw_has_and, sw_has_or, sw_has_none, sw_has_some, sw_in_all, sw_in_has, sw_in_not, sw_in_and, sw_in_or, sw_in_none, sw_in_some, sw_not_all, sw_not_has, sw_not_in, sw_not_and, sw_not_or, sw_not_none, sw_not_some, sw_and_all, sw_and_has, sw_and_in, sw_and_not, sw_and_or, sw_and_none, sw_and_some, sw_or_all, sw_or_has, sw_or_in, sw_or_not, sw_or_and, sw_or_none, sw_or_some, sw_none_all, sw_none_has, sw_none_in, sw_none_not, sw_none_and, sw_none_or, sw_none_some, sw_some_all, sw_some_has, sw_some_in, sw_some_not, sw_some_and, sw_some_or, sw_some_none, beq_self_eq_true])
/-! ### the law's own reading of a filter -/
def S_law_lets (n : Nat) : S8 := fun ds P => ∃ f ls, ds = [Fil.enc f, encL ls] ∧ f.wf ∧ f.dep < n ∧ L8 ls ∧ P (.bool (lets ls f))
theorem any_bool_map {α : Type} (g : α → Bool) (b : Bool) : ∀ fs : List α, ((fs.map fun f => PyData.bool (g f)).any fun z => PyData.eqv z (.bool b)) = fs.any fun f => g f == b
  | [] => rfl
  | f :: fs => by rw [List.map_cons, List.any_cons, List.any_cons, any_bool_map g b fs, eqv_bool]
theorem shaped_bool_map {α : Type} (g : α → Bool) (fs : List α) : SeqAt.shaped (.list (fs.map fun f => PyData.bool (g f))) = true := by
  have : fs.map (fun f => PyData.bool (g f)) = (fs.map g).map .bool := by rw [List.map_map] <;> rfl
  rw [this]; exact shaped_bools _
theorem all_any {α : Type} (g : α → Bool) : ∀ fs : List α, (!fs.any fun f => g f == false) = fs.all g
  | [] => rfl
  | f :: fs => by
    rw [List.any_cons, List.all_cons, ← all_any g fs]
    cases g f <;> rfl
theorem any_any {α : Type} (g : α → Bool) : ∀ fs : List α, (fs.any fun f => g f == true) = fs.any g
  | [] => rfl
  | f :: fs => by
    rw [List.any_cons, List.any_cons, ← any_any g fs]
    cases g f <;> rfl
theorem ints_look {ls : Lab} {m : Str} (h : (ls.map (·.1)).Nodup) : (ls.filter fun p => p.1 == m).map (fun p => PyData.int p.2) = (look ls m).toList.map .int := by
  rw [← look_list h, List.map_map] <;> rfl
theorem look_short {ls : Lab} {m : Str} : ((look ls m).toList.map PyData.int).length < 1000000 := by
  cases look ls m with
  | none => exact (show 0 < 1000000 by decide)
  | some v => exact (show 1 < 1000000 by decide)
theorem le2 {lo v hi : Int} {A N : Prop} (k1 : decide (lo ≤ v ∧ v ≤ hi) = true → A) (k2 : decide (lo ≤ v ∧ v ≤ hi) = false → N) : (decide (lo ≤ v) = true → (decide (v ≤ hi) = true → A) ∧ (decide (v ≤ hi) = false → N)) ∧ (decide (lo ≤ v) = false → N) :=
  ⟨fun a => ⟨fun b => k1 (decide_eq_true ⟨of_decide_eq_true a, of_decide_eq_true b⟩), fun b => k2 (decide_eq_false fun z => of_decide_eq_false b z.2)⟩, fun a => k2 (decide_eq_false fun z => of_decide_eq_false a z.1)⟩
theorem law_law_lets (n : Nat) : ∀ ds P, S_law_lets (n + 1) ds P → w_law_lets (S_law_lets n) { nx := fun _ => P .none, rt := P } (dats ds 5) := by
  rintro ds P ⟨f, ls, rfl, hw, hd, hr, p⟩
  unfold w_law_lets
  have h9 := hr.len
  walk_at "dl"
  cases f with
  | all =>
    simp only [Fil.enc, lets] at p ⊢
    walk_at "dl"
    exact p
  | has m =>
    simp only [Fil.enc, lets, Fil.wf] at p hw ⊢
    walk_at "dl"
    refine ⟨rfl, rfl, _, rfl, _, .inr rfl, by rw [List.length_map]; omega, lc_map ls encP (fun p => p.1 == m) (fun p => .int p.2) (fun q Y N hq k1 k2 => ?_) ?_⟩
    · have hq8 := u8_sok (hr.u8 q hq)
      simp only [encP]
      walk_at "dl"
      exact ⟨rfl, shaped_str hq8, shaped_str hw, k1, k2⟩
    · refine ⟨_, .inl rfl, ?_⟩
      rw [ints_look hr.nd]
      refine ⟨look_short, lc_map (look ls m).toList PyData.int (fun _ => true) PyData.int (fun v Y N hv k1 k2 => ?_) ⟨Nat.zero_le _, shaped_ints _, shaped_nil, ?_⟩⟩
      · walk_at "dl"
        exact ⟨rfl, k1 rfl⟩
      · rw [eqv_nil, List.filter_eq_self.mpr fun _ _ => rfl]
        cases e : look ls m with
        | none => rw [e] at p; exact p
        | some v => rw [e] at p; exact p
  | rng m lo hi =>
    simp only [Fil.enc, lets, Fil.wf] at p hw ⊢
    walk_at "dl"
    refine ⟨rfl, rfl, _, rfl, _, .inr rfl, by rw [List.length_map]; omega, lc_map ls encP (fun p => p.1 == m) (fun p => .int p.2) (fun q Y N hq k1 k2 => ?_) ?_⟩
    · have hq8 := u8_sok (hr.u8 q hq)
      simp only [encP]
      walk_at "dl"
      exact ⟨rfl, shaped_str hq8, shaped_str hw.1, k1, k2⟩
    · refine ⟨_, .inl rfl, ?_⟩
      rw [ints_look hr.nd]
      refine ⟨look_short, lc_map (look ls m).toList PyData.int (fun v => decide (lo ≤ v ∧ v ≤ hi)) PyData.int (fun v Y N hv k1 k2 => ?_) ⟨Nat.zero_le _, shaped_ints _, shaped_nil, ?_⟩⟩
      · walk_at "dl"
        exact ⟨rfl, le2 k1 k2⟩
      · rw [eqv_nil]
        cases e : look ls m with
        | none => rw [e] at p; exact p
        | some v =>
          rw [e] at p
          have p : P (.bool (decide (lo ≤ v ∧ v ≤ hi))) := p
          show P (.bool (!((List.filter (fun v => decide (lo ≤ v ∧ v ≤ hi)) [v]).map PyData.int).isEmpty))
          rw [List.filter_cons]
          by_cases g : lo ≤ v ∧ v ≤ hi
          · rw [if_pos (decide_eq_true g)]; rw [decide_eq_true g] at p; exact p
          · rw [if_neg (by rw [decide_eq_false g]; exact Bool.false_ne_true)]; rw [decide_eq_false g] at p; exact p
  | neg f =>
    simp only [Fil.enc, lets, Fil.wf, Fil.dep] at p hw hd ⊢
    walk_at "dl"
    exact ⟨f, ls, rfl, hw, by omega, hr, _, rfl, p⟩
  | con fs =>
    simp only [Fil.enc, lets, Fil.wf, Fil.dep] at p hw hd ⊢
    walk_at "dl"
    rw [encs_map]
    rw [letsA_all] at p
    refine lc_tail fs Fil.enc (fun f => .bool (lets ls f)) rfl rfl (by omega) (fun f Y hf hY => ⟨rfl, ?_⟩) ⟨shaped_bool_map _ _, ?_⟩
    · walk_at "dl"
      exact ⟨f, ls, rfl, wfs_mem hw.2 hf, by have := deps_mem hf; omega, hr, hY⟩
    · rw [any_bool_map, all_any]; exact p
  | dis fs =>
    simp only [Fil.enc, lets, Fil.wf, Fil.dep] at p hw hd ⊢
    walk_at "dl"
    rw [encs_map]
    rw [letsO_any] at p
    refine lc_tail fs Fil.enc (fun f => .bool (lets ls f)) rfl rfl (by omega) (fun f Y hf hY => ⟨rfl, ?_⟩) ⟨shaped_bool_map _ _, ?_⟩
    · walk_at "dl"
      exact ⟨f, ls, rfl, wfs_mem hw.2 hf, by have := deps_mem hf; omega, hr, hY⟩
    · rw [any_bool_map, any_any]; exact p
/-! ### all lists; columns -/
abbrev colD (l : Col) : PyData := .list (l.map optD)
def S_law_lists : S8 := fun ds P => ∃ (vs : Col) (n : Nat), ds = [.list (vs.map optD), .int n] ∧ vs.length ≤ 6 ∧ n ≤ 3 ∧ P (.list ((lists vs n).map colD))
theorem lists_few {vs : Col} {n : Nat} (h : vs.length ≤ 6) (hn : n ≤ 3) : (lists vs n).length ≤ 216 := by
  rw [lists_len]
  exact Nat.le_trans (Nat.pow_le_pow_left h n) (Nat.le_trans (Nat.pow_le_pow_right (by omega) hn) (by decide))
theorem law_law_lists : ∀ ds P, S_law_lists ds P → w_law_lists { nx := fun _ => P .none, rt := P } (dats ds 5) := by
  rintro ds P ⟨vs, n, rfl, hv, hn, p⟩
  unfold w_law_lists
  walk_at "dl"
  refine ⟨by rw [sizeLine_eq]; omega, by rw [sizeLine_eq]; omega, _, rfl, n, rfl, by omega, by omega, ?_⟩
  rw [range_enc]
  refine for_inv (List.range n) (fun i => PyData.int (i : Nat)) (fun pre ρ => ∃ x3 x4 x5, ρ = [.dat (.list (vs.map optD)), .dat (.int n), .dat (.list ((lists vs pre.length).map colD)), x3, x4, x5, .un]) ⟨_, _, _, rfl⟩ (fun pre i post ρ' N er hJ k => ?_) fun ρ' hJ => ?_
  · obtain ⟨x3, x4, x5, rfl⟩ := hJ
    have hpl : pre.length < n := by
      have := congrArg List.length er
      rw [List.length_range, List.length_append, List.length_cons] at this
      omega
    have few := lists_few (vs := vs) hv (n := pre.length) (by omega)
    walk_at "dl"
    refine ⟨by rw [sizeLine_eq]; omega, _, rfl, _, .inl rfl, for_inv (lists vs pre.length) colD (fun q ρ => ∃ x5, ρ = [.dat (.list (vs.map optD)), .dat (.int n), .dat (.list ((lists vs pre.length).map colD)), .dat (.int i), .dat (.list ((q.flatMap fun l => vs.map fun v => l ++ [v]).map colD)), x5, .un]) ⟨_, rfl⟩ (fun q l q2 ρ' N er2 hJ k => ?_) fun ρ' hJ => ?_⟩
    · obtain ⟨x5, rfl⟩ := hJ
      have hq : q.length ≤ 216 := by
        have := congrArg List.length er2
        rw [List.length_append, List.length_cons] at this
        omega
      have hll : l.length = pre.length := (lists_mem.mp (show l ∈ lists vs pre.length by rw [er2]; exact List.mem_append_right _ List.mem_cons_self)).1
      walk_at "dl"
      refine ⟨rfl, _, rfl, _, .inl rfl, by rw [List.length_map]; omega, lc_all vs optD (fun v => colD (l ++ [v])) (fun v Y N hv k => ?_) ⟨?_, ?_⟩⟩
      · walk_at "dl"
        refine ⟨rfl, by rw [sizeLine_eq]; omega, by rw [List.length_map, hll, sizeLine_eq]; omega, ?_⟩
        have e : colD (l ++ [v]) = .list (l.map optD ++ [optD v]) := by show PyData.list _ = _; rw [List.map_append] <;> rfl
        rw [e] at k
        exact k
      · have e : ∀ q : List Col, (q.flatMap fun l => vs.map fun v => l ++ [v]).length = q.length * vs.length := fun q => by
          induction q with
          | nil => simp
          | cons a q ih => rw [List.flatMap_cons, List.length_append, ih, List.length_map, List.length_cons, Nat.succ_mul, Nat.add_comm]
        rw [List.length_map, List.length_map, e, sizeLine_eq]
        have : q.length * vs.length ≤ 216 * 6 := Nat.mul_le_mul hq hv
        omega
      · have e : ((q ++ [l]).flatMap fun l => vs.map fun v => l ++ [v]).map colD = (q.flatMap fun l => vs.map fun v => l ++ [v]).map colD ++ vs.map fun v => colD (l ++ [v]) := by
          rw [List.flatMap_append, List.map_append, List.flatMap_cons, List.flatMap_nil, List.append_nil, List.map_map] <;> rfl
        rw [e] at k
        exact k _ ⟨_, rfl⟩
    · obtain ⟨x5, rfl⟩ := hJ
      walk_at "dl"
      have e : lists vs (pre ++ [i]).length = (lists vs pre.length).flatMap fun l => vs.map fun v => l ++ [v] := by rw [List.length_append] <;> rfl
      rw [e] at k
      exact k _ ⟨_, _, _, rfl⟩
  · obtain ⟨x3, x4, x5, rfl⟩ := hJ
    rw [List.length_range]
    walk_at "dl"
    exact p
/-- a row whose values may be tried one by one -/
structure RowS (c : Int) (r : Rw) : Prop extends RowOk c r where
  few : r.hi - r.lo < 4
  b1 : -1000 ≤ r.lo
  b2 : r.hi ≤ 1000
def S_law_columns : S8 := fun ds P => ∃ (c : Nat) (rs : List Rw) (n : Str), ds = [encT c rs, .str n] ∧ c ≤ 3 ∧ rs.length ≤ 8 ∧ Rok rs ∧ sok n ∧ (∀ r, rowOf rs n = some r → RowS c r) ∧ P (.list ((cols c (rowOf rs n)).map colD))
theorem plain_row {r : Rw} (h : sok r.n) : Plain8 (encR r) := by
  refine ⟨?_, ?_⟩
  · have h : PyData.strOk r.n = true := h
    simp only [encR, PyData.canLay0, PyData.canLayAll0, h, Bool.and_self]
  · simp only [encR, PyData.depth, PyData.depthAll]; omega
theorem shaped_rows {rs : List Rw} (h : Rok rs) : SeqAt.shaped (.list (rs.map encR)) = true := shaped_plain fun x hx => by
  obtain ⟨r, hr, e⟩ := List.mem_map.mp hx
  rw [← e]; exact plain_row (h r hr)
theorem filter_row {n : Str} : ∀ rs : List Rw, (rowOf rs n = none ∧ rs.filter (fun r => r.n == n) = []) ∨ ∃ r t, rowOf rs n = some r ∧ rs.filter (fun r => r.n == n) = r :: t
  | [] => .inl ⟨rfl, rfl⟩
  | a :: rs => by
    rw [rowOf_cons, List.filter_cons]
    by_cases e : a.n = n
    · rw [if_pos e, if_pos (beq_iff_eq.mpr e)]
      exact .inr ⟨a, _, rfl, rfl⟩
    · rw [if_neg e, if_neg (by rw [beq_iff_eq]; exact e)]
      exact filter_row rs
theorem there_ints : ∀ l : Col, (l.filter Option.isSome).map optD = (there l).map .int
  | [] => rfl
  | .none :: l => there_ints l
  | .some v :: l => by
    show List.map optD (some v :: l.filter Option.isSome) = _
    rw [List.map_cons, there_ints l] <;> rfl
theorem non_opt (o : Option Int) : (!isNon (optD o)) = o.isSome := by cases o <;> rfl
theorem law_law_columns : ∀ ds P, S_law_columns ds P → w_law_columns S_law_lists { nx := fun _ => P .none, rt := P } (dats ds 10) := by
  rintro ds P ⟨c, rs, n, rfl, hc, hl, hr, hn, hs, p⟩
  unfold w_law_columns
  simp only [encT]
  walk_at "dl"
  refine ⟨rfl, _, rfl, _, _, _, .inr rfl, rfl, at1 _ _ _, _, .inr rfl, by rw [List.length_map]; omega, lc_map rs encR (fun r => r.n == n) encR (fun r Y N hm k1 k2 => ?_) ?_⟩
  · simp only [encR] at k1 ⊢
    walk_at "dl"
    exact ⟨rfl, shaped_str (hr r hm), shaped_str hn, k1, k2⟩
  have hsh : SeqAt.shaped (.list ((rs.filter fun r => r.n == n).map encR)) = true := shaped_rows fun r hm => hr r (List.mem_filter.mp hm).1
  refine ⟨Nat.zero_le _, hsh, shaped_nil, ?_⟩
  rw [eqv_nil]
  rcases filter_row (n := n) rs with ⟨e1, e2⟩ | ⟨r, t, e1, e2⟩
  · rw [e2]
    rw [e1] at p
    refine ⟨fun _ => ⟨by rw [sizeLine_eq]; omega, by omega, by omega, by rw [sizeLine_eq]; omega, ?_⟩, fun z => nomatch z⟩
    have e : [PyData.list (List.replicate ((c : Int).toNat) PyData.none)] = (cols c none).map colD := by
      rw [Int.toNat_natCast]
      show _ = [PyData.list ((List.replicate c none).map optD)]
      rw [List.map_replicate] <;> rfl
    rw [e]; exact p
  · rw [e2]
    rw [e1] at p
    have a := hs r e1
    have k1 := a.k1
    have k2 := a.k2
    have od := a.ord
    have fw := a.few
    have b1 := a.b1
    have b2 := a.b2
    refine ⟨fun z => (nomatch z), fun _ => ?_⟩
    simp only [List.map_cons, encR]
    walk_at "dl"
    simp only [wLstRg]
    walk_at "dl"
    generalize hT : PyData.tuple [.int c, .tuple (rs.map encR)] = T
    generalize hR : PyData.tuple [.str r.n, .int r.k, .int r.lo, .int r.hi] :: t.map encR = R
    have er : rgD r.lo (r.hi + 1) = (rgZ r.lo (r.hi + 1)).map .int := by unfold rgD rgZ; rw [List.map_map] <;> rfl
    have el : (rgZ r.lo (r.hi + 1)).length ≤ 4 := by unfold rgZ; rw [List.length_map, List.length_range]; omega
    have es : [PyData.none] ++ (rgZ r.lo (r.hi + 1)).map .int = (none :: (rgZ r.lo (r.hi + 1)).map some).map optD := by
      rw [List.map_cons, List.map_map] <;> rfl
    rw [er]
    refine ⟨⟨by omega, by omega, by omega, by omega, by omega⟩, (show 7 < 12 by decide), by rw [sizeLine_eq]; exact (show 1 ≤ 16777216 by decide), _, rfl, _, _, rfl, rfl, ?_, _, rfl, _, _, _, .inr hT.symm, rfl, at0 _ _, none :: (rgZ r.lo (r.hi + 1)).map some, c, by rw [es], by rw [List.length_cons, List.length_map]; omega, hc, _, .inl rfl,
      for_inv (lists (none :: (rgZ r.lo (r.hi + 1)).map some) c) colD (fun pre ρ => ∃ x8 x9, ρ = [.dat T, .dat (.str n), .dat (.list R), .dat (.int r.k), .dat (.int r.lo), .dat (.int r.hi), .dat (.list ((rgZ r.lo (r.hi + 1)).map .int)), .own (.lst ((pre.filter (good r)).map colD)), x8, x9, .un, .un]) ⟨_, _, rfl⟩ (fun pre l post ρ' N er2 hJ k => ?_) fun ρ' hJ => ?_⟩
    · rw [List.length_map, sizeLine_eq]; show 1 + _ ≤ _; omega
    · obtain ⟨x8, x9, rfl⟩ := hJ
      have few : pre.length ≤ 216 := by
        have h1 := congrArg List.length er2
        have h2 := lists_few (vs := none :: (rgZ r.lo (r.hi + 1)).map some) (n := c) (by rw [List.length_cons, List.length_map]; omega) hc
        rw [List.length_append, List.length_cons] at h1
        omega
      have hll : l.length = c := (lists_mem.mp (show l ∈ lists (none :: (rgZ r.lo (r.hi + 1)).map some) c by rw [er2]; exact List.mem_append_right _ List.mem_cons_self)).1
      have fl := List.length_filter_le (good r) pre
      walk_at "dl"
      refine ⟨rfl, _, rfl, _, .inl rfl, by rw [List.length_map, hll]; omega, lc_map l optD Option.isSome optD (fun o Y N hm k1 k2 => ?_) ?_⟩
      · walk_at "dl"
        rw [non_opt]
        exact ⟨rfl, k1, k2⟩
      · rw [there_ints]
        rw [List.filter_append] at k
        have ng : ¬ RowAt (there l) r → N [.dat T, .dat (.str n), .dat (.list R), .dat (.int r.k), .dat (.int r.lo), .dat (.int r.hi), .dat (.list ((rgZ r.lo (r.hi + 1)).map .int)), .own (.lst ((pre.filter (good r)).map colD)), .dat (colD l), .dat (.list ((there l).map .int)), .un, .un] := fun h => by
          have : List.filter (good r) [l] = [] := by rw [List.filter_cons, if_neg (fun z => h (good_iff.mp z))] <;> rfl
          rw [this, List.append_nil] at k
          exact k _ ⟨_, _, rfl⟩
        refine ⟨fun z => ?_, fun z => ng fun g => beq_eq_false_iff_ne.mp z (by rw [List.length_map]; exact g.k.symm)⟩
        have z := beq_iff_eq.mp z
        rw [List.length_map] at z
        have tp : 0 < (there l).length := by omega
        refine ⟨_, rfl, tp, fun lo m1 g1 => ⟨shaped_int _, ?_⟩⟩
        rw [eqv_int]
        refine ⟨fun y => ?_, fun y => ng fun g => beq_eq_false_iff_ne.mp y (low_uniq ⟨m1, g1⟩ g.lo)⟩
        refine ⟨_, rfl, tp, fun hi m2 g2 => ⟨shaped_int _, ?_⟩⟩
        rw [eqv_int]
        refine ⟨fun w => ?_, fun w => ng fun g => beq_eq_false_iff_ne.mp w (top_uniq ⟨m2, g2⟩ g.hi)⟩
        have y := beq_iff_eq.mp y
        have w := beq_iff_eq.mp w
        subst y w
        have g : RowAt (there l) r := ⟨z.symm, ⟨m1, g1⟩, m2, g2⟩
        have : List.filter (good r) [l] = [l] := by rw [List.filter_cons, if_pos (good_iff.mpr g)] <;> rfl
        rw [this, List.map_append] at k
        exact ⟨⟨_, rfl⟩, _, rfl, by rw [List.length_map, sizeLine_eq]; omega, k _ ⟨_, _, rfl⟩⟩
    · obtain ⟨x8, x9, rfl⟩ := hJ
      walk_at "dl"
      exact ⟨_, rfl, p⟩
end D8
namespace D8
open PySem PySem.Spec PyProof.Rows L2
local macro_rules | `(tactic| walk_at "dl") => `(tactic| simp only [wSeq, wIfS, wRet, wAsg, wPar, wNext, wB, wOp, wUn, wNeg, wVar, wC, wIx, wEqD, wNeD, wInD, wNotInD, wI, wTup, wLst, wCons, wNil, wCB, wCall, wCallH, wCal2, wIfE, wAnd, wOr, wNot, wAndV, wOrV, wNotV, wChain, wIsN, wNotN, wgName, wgTup, wgCons, wgNil, wL, wYes, wSl, wPart, wNoPart, wCat, wCatT, wRep,
  wLen, wMin2, wMax2, wAll, wAny, wTupOf, wListOf, wInt1, wOwn, wApp, wFrz, wIxOwn, wDrop, dats, List.map_cons, List.map_nil, List.cons_append, List.nil_append, List.replicate, List.set_cons_zero, List.set_cons_succ, List.getElem?_cons_zero, List.getElem?_cons_succ, Option.some.injEq, Sl.dat.injEq, Sl.own.injEq, exists_eq_left', exists_eq_left, exists_eq_right', exists_eq_right,
  PyData.tuple.injEq, PyData.list.injEq, PyData.int.injEq, PyData.str.injEq, PyData.bool.injEq, List.cons.injEq, reduceCtorEq, false_or, or_false, false_and, and_false, and_true, true_and, exists_const, exists_false, eqv_str, eqv_int, eqv_bool, shaped_int, shaped_bool, and_assoc, exists_and_left, List.length_cons, List.length_nil, Nat.reduceAdd, Nat.zero_add, at0, at1, at2, at3, cut1, cut2, beq_self_eq_true, Bool.not_true, Bool.not_false, Bool.false_eq_true, false_implies, true_implies, forall_const, eq_self_iff_true, forall_eq, forall_eq', Bool.true_eq_false, sw_all_has, sw_all_in, sw_all_not, sw_all_and, sw_all_or, sw_all_none, sw_all_some, sw_has_all, sw_has_in, sw_has_not, sw_has_and, sw_has_or, sw_has_none, sw_has_some, sw_in_all, sw_in_has, sw_in_not, sw_in_and, sw_in_or, sw_in_none, sw_in_some, sw_not_all, sw_not_has, sw_not_in, sw_not_and, sw_not_or, sw_not_none, sw_not_some, sw_and_all, sw_and_has, sw_and_in, sw_and_not, sw_and_or, sw_and_none, sw_and_some, sw_or_all, sw_or_has, sw_or_in, sw_or_not, sw_or_and, sw_or_none, sw_or_some, sw_none_all, sw_none_has, sw_none_in, sw_none_not, sw_none_and, sw_none_or, sw_none_some, sw_some_all, sw_some_has, sw_some_in, sw_some_not, sw_some_and, sw_some_or, sw_some_none, shw_all, shw_has, shw_in, shw_not, shw_and, shw_or, shw_none, shw_some])
local macro_rules | `(tactic| walk_at "sw") => `(tactic| simp only [sw_all_has, sw_all_in, sw_all_not, sw_all_and, sw_all_or, sw_all_none, sw_all_some, sw_has_all, sw_has_in, sw_has_not, sw_has_and, sw_has_or, sw_has_none, sw_has_some, sw_in_all, sw_in_has, sw_in_not, sw_in_and, sw_in_or, sw_in_none, sw_in_some, sw_not_all, sw_not_has, sw_not_in, sw_not_and, sw_not_or, sw_not_none, sw_not_some, sw_and_all, sw_and_has, sw_and_in, sw_and_not, sw_and_or, sw_and_none, sw_and_some, sw_or_all, sw_or_has, sw_or_in, sw_or_not, sw_or_and, sw_or_none, sw_or_some, sw_none_all, sw_none_has, sw_none_in, sw_none_not, sw_none_and, sw_none_or, sw_none_some, sw_some_all, sw_some_has, sw_some_in, sw_some_not, sw_some_and, sw_some_or, sw_some_none, beq_self_eq_true])
/-! ### one kind of word -/
theorem dd_any (xs : List Str) (z : Str) : (dd xs).any (· == z) = xs.any (· == z) := by
  have : ∀ (xs acc : List Str), (xs.foldl dd1 acc).any (· == z) = (acc.any (· == z) || xs.any (· == z)) := fun xs => by
    induction xs with
    | nil => intro acc; simp
    | cons x xs ih =>
      intro acc
      rw [List.foldl_cons, ih, dd1_any, List.any_cons, Bool.or_assoc]
      congr 2
      by_cases e : z = x
      · subst e; simp
      · have : ¬ x = z := fun h => e h.symm
        simp [e, this]
  exact (this xs []).trans (Bool.false_or _)
theorem dd_one {xs : List Str} (h : (dd xs).length = 1) : ∃ w, xs ≠ [] ∧ ∀ x ∈ xs, x = w := by
  obtain ⟨w, hw⟩ := List.length_eq_one_iff.mp h
  refine ⟨w, fun e => ?_, fun x hx => ?_⟩
  · rw [e] at h; cases h
  · have h1 : (dd xs).any (· == x) = true := by rw [dd_any]; exact List.any_eq_true.mpr ⟨x, hx, beq_self_eq_true x⟩
    rw [hw] at h1
    obtain ⟨y, hy, e⟩ := List.any_eq_true.mp h1
    rw [← beq_iff_eq.mp e]
    exact List.mem_singleton.mp hy
theorem dd_same {xs : List Str} {w : Str} (hn : xs ≠ []) (h : ∀ x ∈ xs, x = w) : (dd xs).length = 1 := by
  have key : ∀ t : List Str, (∀ x ∈ t, x = w) → t.foldl dd1 [w] = [w] := fun t => by
    induction t with
    | nil => intro _; rfl
    | cons x t ih =>
      intro h
      rw [List.foldl_cons, h x List.mem_cons_self]
      have : dd1 [w] w = [w] := by unfold dd1; rw [if_pos (by simp)]
      rw [this]
      exact ih fun y hy => h y (List.mem_cons_of_mem _ hy)
  obtain ⟨x, t, e⟩ := List.exists_cons_of_ne_nil hn
  subst e
  have hx := h x List.mem_cons_self
  subst hx
  unfold dd
  rw [List.foldl_cons]
  have : dd1 [] x = [x] := rfl
  rw [this, key t fun y hy => h y (List.mem_cons_of_mem _ hy)] <;> rfl
theorem vd_s_inj {v w : Vd} (h : v.s = w.s) : v = w := by
  have := beq_vd v w
  rw [h, beq_self_eq_true] at this
  exact of_decide_eq_true this.symm
theorem fits_out {ws : List Vd} {v : Vd} (h : Fits ws v) : ((dd (ws.map Vd.s)).length = 1 → ∃ t, ws = v :: t) ∧ (¬ (dd (ws.map Vd.s)).length = 1 → v = .some) := by
  have ne : ws.map Vd.s ≠ [] := fun e => h.ne (List.map_eq_nil_iff.mp e)
  constructor
  · intro h1
    obtain ⟨w, _, hw⟩ := dd_one h1
    obtain ⟨x, t, e⟩ := List.exists_cons_of_ne_nil h.ne
    have all : ∀ y ∈ ws, y = x := fun y hy => vd_s_inj ((hw _ (List.mem_map.mpr ⟨y, hy, rfl⟩)).trans (hw _ (List.mem_map.mpr ⟨x, by rw [e]; exact List.mem_cons_self, rfl⟩)).symm)
    have hx : x ∈ ws := by rw [e]; exact List.mem_cons_self
    refine ⟨t, ?_⟩
    rw [e]
    congr 1
    cases hv : v with
    | none => exact h.none hv x hx
    | all => exact h.all hv x hx
    | some =>
      obtain ⟨⟨a, a1, a2⟩, ⟨b, b1, b2⟩⟩ := h.some hv
      rw [all a a1] at a2
      rw [all b b1] at b2
      cases x with
      | none => exact absurd rfl a2
      | all => exact absurd rfl b2
      | some => rfl
  · intro h1
    cases hv : v with
    | some => rfl
    | none => exact absurd (dd_same (w := Vd.none.s) ne fun x hx => by obtain ⟨y, hy, e⟩ := List.mem_map.mp hx; rw [← e, h.none hv y hy]) h1
    | all => exact absurd (dd_same (w := Vd.all.s) ne fun x hx => by obtain ⟨y, hy, e⟩ := List.mem_map.mp hx; rw [← e, h.all hv y hy]) h1
/-! ### what is due for one name -/
def S_law_single_due : S8 := fun ds P => ∃ (f : Fil) (n : Str) (c : Nat) (rs : List Rw), ds = [f.enc, encT c rs] ∧ nameA f = some n ∧ f.wf ∧ 1 ≤ c ∧ c ≤ 3 ∧ rs.length ≤ 8 ∧ Rok rs ∧ (∀ r, rowOf rs n = some r → RowS c r) ∧ P (.str (vd c rs f).s)
theorem enc_name {f : Fil} {n : Str} (h : nameA f = some n) : ∃ w t, f.enc = .tuple (.str w :: .str n :: t) := by
  cases f with
  | has m => cases h; exact ⟨_, _, by simp only [Fil.enc]; rfl⟩
  | rng m lo hi => cases h; exact ⟨_, _, by simp only [Fil.enc]; rfl⟩
  | all => cases h
  | neg _ => cases h
  | con _ => cases h
  | dis _ => cases h
theorem name_sok {f : Fil} {n : Str} (h : nameA f = some n) (w : f.wf) : sok n := by
  cases f with
  | has m => cases h; simpa only [Fil.wf] using w
  | rng m lo hi => cases h; simp only [Fil.wf] at w; exact w.1
  | all => cases h
  | neg _ => cases h
  | con _ => cases h
  | dis _ => cases h
theorem cols_few {c : Nat} (hc : c ≤ 3) {o : Option Rw} (h : ∀ r, o = some r → r.hi - r.lo < 4) : (cols c o).length ≤ 216 := by
  cases o with
  | none => exact (show 1 ≤ 216 by decide)
  | some r =>
    have := h r rfl
    refine Nat.le_trans (List.length_filter_le _ _) (lists_few ?_ hc)
    rw [List.length_cons, List.length_map]
    unfold rgZ
    rw [List.length_map, List.length_range]; omega
theorem law_law_single_due : ∀ ds P, S_law_single_due ds P → w_law_single_due S_law_columns { nx := fun _ => P .none, rt := P } (dats ds 4) := by
  rintro ds P ⟨f, n, c, rs, rfl, hf, hw, c1, c3, hl, hr, hs, p⟩
  unfold w_law_single_due
  obtain ⟨w0, t0, ef⟩ := enc_name hf
  have fit := fits_atom hf hw c1 fun r e => (hs r e).toRowOk
  have hcl : ∀ l ∈ cols c (rowOf rs n), l.length = c := fun l hl => by
    cases e : rowOf rs n with
    | none => rw [e] at hl; rw [List.mem_singleton.mp hl, List.length_replicate]
    | some r => rw [e] at hl; exact (cols_mem.mp hl).1.1
  have few := cols_few c3 (o := rowOf rs n) fun r e => (hs r e).few
  walk_at "dl"
  refine ⟨(show 2 < 6 by decide), _, rfl, _, rfl, _, _, _, .inr ef, rfl, at1 _ _ _, c, rs, n, rfl, c3, hl, hr, name_sok hf hw, hs, _, .inl rfl,
    for_inv (cols c (rowOf rs n)) colD (fun pre ρ => ∃ x3 x4, ρ = [.dat f.enc, .dat (encT c rs), .own (.lst (pre.map fun l => .str (wordA (l.map (bitA f))).s)), x3, x4, .un]) ⟨_, _, rfl⟩ (fun pre l post ρ' N er hJ k => ?_) fun ρ' hJ => ?_⟩
  · obtain ⟨x3, x4, rfl⟩ := hJ
    have hlc := hcl l (by rw [er]; exact List.mem_append_right _ List.mem_cons_self)
    have hpl : pre.length ≤ 216 := by
      have := congrArg List.length er
      rw [List.length_append, List.length_cons] at this
      omega
    walk_at "dl"
    refine ⟨rfl, _, rfl, _, .inl rfl, by rw [List.length_map, hlc]; omega, lc_all l optD (fun o => .bool (bitA f o)) (fun o Y N ho k => ?_) ?_⟩
    · cases f with
      | has m =>
        simp only [Fil.enc]
        cases o with
        | none =>
          simp only [optD]
          walk_at "dl"
          exact ⟨rfl, fun z => (nomatch z), fun _ => k⟩
        | some v =>
          simp only [optD]
          walk_at "dl"
          exact ⟨rfl, fun _ => k, fun z => (nomatch z)⟩
      | rng m lo hi =>
        simp only [Fil.enc]
        cases o with
        | none =>
          simp only [optD]
          walk_at "dl"
          exact ⟨rfl, fun z => (nomatch z), fun _ => k⟩
        | some v =>
          simp only [optD]
          walk_at "dl"
          have k : Y (.bool (decide (lo ≤ v ∧ v ≤ hi))) := k
          refine ⟨rfl, fun _ => ⟨fun a => ?_, fun a => ?_⟩, fun z => (nomatch z)⟩
          · have e : decide (lo ≤ v ∧ v ≤ hi) = decide (v ≤ hi) := by simp [of_decide_eq_true a]
            rw [e] at k; exact k
          · rw [decide_eq_false fun z => of_decide_eq_false a z.1] at k; exact k
      | all => cases hf
      | neg _ => cases hf
      | con _ => cases hf
      | dis _ => cases hf
    · have e1 : ((l.map fun o => PyData.bool (bitA f o)).any fun z => PyData.eqv z (.bool false)) = (l.map (bitA f)).any (· == false) := by rw [any_bool_map, List.any_map] <;> rfl
      have e2 : ((l.map fun o => PyData.bool (bitA f o)).any fun z => PyData.eqv z (.bool true)) = (l.map (bitA f)).any (· == true) := by rw [any_bool_map, List.any_map] <;> rfl
      have fin : ∀ w : Vd, wordA (l.map (bitA f)) = w → ∃ ds, Ow.lst (pre.map fun l => PyData.str (wordA (l.map (bitA f))).s) = Ow.lst ds ∧ ds.length < sizeLine ∧ N [.dat f.enc, .dat (encT c rs), .own (.lst (ds ++ [.str w.s])), .dat (colD l), .dat (.list (l.map fun o => PyData.bool (bitA f o))), .un] := fun w ew => by
        refine ⟨_, rfl, by rw [List.length_map, sizeLine_eq]; omega, k _ ⟨.dat (colD l), .dat (.list (l.map fun o => PyData.bool (bitA f o))), ?_⟩⟩
        rw [List.map_append, ← ew] <;> rfl
      have sb := shaped_bool_map (bitA f) l
      rw [e1, e2]
      refine ⟨⟨_, rfl⟩, sb, fun z => fin .all ?_, fun z => ⟨sb, fun y => fin .none ?_, fun y => fin .some ?_⟩⟩
      · rw [Bool.not_eq_true'] at z
        unfold wordA; rw [if_pos z]
      · rw [Bool.not_eq_false'] at z
        rw [Bool.not_eq_true'] at y
        unfold wordA; rw [if_neg (by rw [z]; exact fun h => nomatch h), if_pos y]
      · rw [Bool.not_eq_false'] at z y
        unfold wordA; rw [if_neg (by rw [z]; exact fun h => nomatch h), if_neg (by rw [y]; exact fun h => nomatch h)]
  · obtain ⟨x3, x4, rfl⟩ := hJ
    walk_at "dl"
    obtain ⟨o1, o2⟩ := fits_out fit
    have ew : (cols c (rowOf rs n)).map (fun l => PyData.str (wordA (l.map (bitA f))).s) = ((wordsA c rs f n).map Vd.s).map .str := by unfold wordsA; rw [List.map_map, List.map_map] <;> rfl
    rw [ew]
    refine ⟨_, rfl, _, rfl, (wordsA c rs f n).map Vd.s, rfl, ?_, shaped_int _, ?_⟩
    · unfold wordsA; rw [List.length_map, List.length_map]; omega
    rw [eqv_int]
    refine ⟨fun z => ?_, fun z => ?_⟩
    · obtain ⟨t, e⟩ := o1 (by have := beq_iff_eq.mp z; omega)
      rw [e]
      exact ⟨_, at0 _ _, p⟩
    · have := o2 (by have := beq_eq_false_iff_ne.mp z; omega)
      rw [this] at p
      exact p
/-! ### what is due for a filter -/
def S_law_due (n : Nat) : S8 := fun ds P => ∃ (f : Fil) (c : Nat) (rs : List Rw), ds = [f.enc, encT c rs] ∧ f.wf ∧ f.dep < n ∧ c ≤ 3 ∧ rs.length ≤ 8 ∧ Rok rs ∧ (∀ n r, rowOf rs n = some r → RowS c r) ∧ P (.str (verd c rs f).s)
theorem eqv_rep (w : Vd) : ∀ ws : List Vd, PyData.eqvAll (ws.map fun v => .str v.s) (List.replicate ws.length (.str w.s)) = decide (∀ v ∈ ws, v = w)
  | [] => by rw [List.map_nil]; simp [PyData.eqvAll]
  | v :: ws => by
    rw [List.map_cons, List.length_cons, List.replicate_succ, PyData.eqvAll, eqv_rep w ws, eqv_str, beq_vd]
    by_cases a : v = w <;> by_cases b : ∀ v ∈ ws, v = w <;> simp [a, b]
theorem shaped_rep (w : Vd) (n : Nat) : SeqAt.shaped (.list (List.replicate n (.str w.s))) = true := by
  have : List.replicate n (PyData.str w.s) = (List.replicate n w).map fun v => .str v.s := by rw [List.map_replicate]
  rw [this]; exact shaped_vds _
theorem any2 (w : Str) : ([PyData.str "has", PyData.str "in"].any fun z => PyData.eqv z (.str w)) = (("has" == w) || ("in" == w)) := by
  rw [List.any_cons, List.any_cons, List.any_nil, eqv_str, eqv_str, Bool.or_false]
theorem sz2 : 2 ≤ sizeLine := by rw [sizeLine_eq]; omega
/-- the last turn of and, or -/
theorem due_last {P : PyData → Prop} (ws : List Vd) (first last v : Vd) (hl : ws.length ≤ 1000) (h1 : first ∈ ws → v = first) (h2 : first ∉ ws → (∀ w ∈ ws, w = last) → v = last) (h3 : first ∉ ws → ¬ (∀ w ∈ ws, w = last) → v = .some) (p : P (.str v.s)) :
    2 ≤ sizeLine ∧ SeqAt.shaped (.list (ws.map fun v => .str v.s)) = true ∧ (((ws.map fun v => PyData.str v.s).any fun z => PyData.eqv z (.str first.s)) = true → P (.str first.s)) ∧
      (((ws.map fun v => PyData.str v.s).any fun z => PyData.eqv z (.str first.s)) = false → 1 ≤ sizeLine ∧ (0 : Int) ≤ ((ws.map fun v => PyData.str v.s).length : Nat) ∧ (((ws.map fun v => PyData.str v.s).length : Nat) : Int) ≤ 1000 ∧ SeqAt.shaped (.list (ws.map fun v => .str v.s)) = true ∧
        SeqAt.shaped (.list (List.replicate ((((ws.map fun v => PyData.str v.s).length : Nat) : Int).toNat) (.str last.s))) = true ∧
        (PyData.eqv (.list (ws.map fun v => .str v.s)) (.list (List.replicate ((((ws.map fun v => PyData.str v.s).length : Nat) : Int).toNat) (.str last.s))) = true → P (.str last.s)) ∧
        (PyData.eqv (.list (ws.map fun v => .str v.s)) (.list (List.replicate ((((ws.map fun v => PyData.str v.s).length : Nat) : Int).toNat) (.str last.s))) = false → P (.str "some"))) := by
  rw [any_vds, List.length_map, Int.toNat_natCast]
  have e : PyData.eqv (.list (ws.map fun v => .str v.s)) (.list (List.replicate ws.length (.str last.s))) = decide (∀ v ∈ ws, v = last) := by
    rw [PyData.eqv]; exact eqv_rep last ws
  rw [e]
  refine ⟨sz2, shaped_vds ws, fun z => ?_, fun z => ⟨by rw [sizeLine_eq]; omega, by omega, by omega, shaped_vds ws, shaped_rep last _, fun y => ?_, fun y => ?_⟩⟩
  · rw [h1 (of_decide_eq_true z)] at p; exact p
  · rw [h2 (of_decide_eq_false z) (of_decide_eq_true y)] at p; exact p
  · rw [h3 (of_decide_eq_false z) (of_decide_eq_false y)] at p; exact p
theorem dict_opp {P : PyData → Prop} {v : Vd} (p : P (.str v.opp.s)) : (PyData.str v.s = .str "none" ∧ P (.str "all")) ∨ (PyData.str v.s = .str "all" ∧ P (.str "none")) ∨ (PyData.str v.s = .str "some" ∧ P (.str "some")) := by
  cases v with
  | none => exact .inl ⟨rfl, p⟩
  | all => exact .inr (.inl ⟨rfl, p⟩)
  | some => exact .inr (.inr ⟨rfl, p⟩)
theorem law_law_due (n : Nat) : ∀ ds P, S_law_due (n + 1) ds P → w_law_due S_law_single_due (S_law_due n) { nx := fun _ => P .none, rt := P } (dats ds 4) := by
  rintro ds P ⟨f, c, rs, rfl, hw, hd, hc, hl, hr, hs, p⟩
  unfold w_law_due
  simp only [encT]
  walk_at "dl"
  by_cases c0 : (c : Int) = 0
  · rw [c0] at p ⊢
    exact ⟨fun _ => p, fun z => absurd z (by decide)⟩
  refine ⟨fun z => absurd (beq_iff_eq.mp z) c0, fun _ => ?_⟩
  rw [verd_pos c0] at p
  have c1 : 1 ≤ c := by omega
  have two : SeqAt.shaped (.list [.str "has", .str "in"]) = true := shaped_strs (xs := ["has", "in"]) fun x hx => by
    rcases List.mem_cons.mp hx with e | hx
    · rw [e]; exact so_has
    · rw [List.mem_singleton.mp hx]; exact so_in
  have tail : ∀ (fs : List Fil), Fil.wfs fs → Fil.deps fs < n → fs.length ≤ 10 → ∀ (w : Str) (Q : List PyData → Prop), Q (fs.map fun f => .str (vd c rs f).s) →
      wLc (wSeq8 (wSl (wVar 0) (wPart (wC (.int 1))) wNoPart)) (wgName 5) wYes (wCall (S_law_due n) (wCons (wVar 5) (wCons (wVar 1) wNil))) [5] [.dat (.tuple (.str w :: fs.map Fil.enc)), .dat (.tuple [.int c, .tuple (rs.map encR)]), .un, .un, .un, .un] Q := fun fs hw hd h10 w Q hq => by
    refine lc_tail fs Fil.enc (fun f => .str (vd c rs f).s) rfl rfl (by omega) (fun f Y hf hY => ⟨rfl, ?_⟩) hq
    walk_at "dl"
    exact ⟨f, c, rs, rfl, wfs_mem hw hf, by have := deps_mem hf; omega, hc, hl, hr, hs, by rw [verd_pos c0]; exact hY⟩
  cases f with
  | all =>
    simp only [Fil.enc, vd, Vd.s] at p ⊢
    walk_at "dl"
    exact p
  | has m =>
    have hk : S_law_single_due [(Fil.has m).enc, encT c rs] P := ⟨.has m, m, c, rs, rfl, rfl, hw, c1, hc, hl, hr, fun r e => hs m r e, p⟩
    simp only [Fil.enc] at hk ⊢
    walk_at "dl"
    refine ⟨sz2, two, ?_⟩
    rw [any2]
    walk_at "sw"
    exact ⟨fun _ => hk, fun z => (nomatch z)⟩
  | rng m lo hi =>
    have hk : S_law_single_due [(Fil.rng m lo hi).enc, encT c rs] P := ⟨.rng m lo hi, m, c, rs, rfl, rfl, hw, c1, hc, hl, hr, fun r e => hs m r e, p⟩
    simp only [Fil.enc] at hk ⊢
    walk_at "dl"
    refine ⟨sz2, two, ?_⟩
    rw [any2]
    walk_at "sw"
    exact ⟨fun _ => hk, fun z => (nomatch z)⟩
  | neg f =>
    simp only [Fil.wf, Fil.dep] at hw hd
    simp only [Fil.enc, vd] at p ⊢
    walk_at "dl"
    refine ⟨sz2, two, ?_⟩
    rw [any2]
    walk_at "sw"
    refine ⟨fun z => (nomatch z), fun _ => tail [f] (by simp only [Fil.wfs]; exact ⟨hw, trivial⟩) (by simp only [Fil.deps]; omega) (by rw [List.length_singleton]; omega) _ _ ?_⟩
    refine ⟨_, rfl, _, _, _, .inl rfl, rfl, at0 _ _, ?_⟩
    exact dict_opp p
  | con fs =>
    simp only [Fil.wf, Fil.dep] at hw hd
    simp only [Fil.enc, vd] at p ⊢
    walk_at "dl"
    rw [encs_map] at *
    rw [vds_map] at p
    refine ⟨sz2, two, ?_⟩
    rw [any2]
    walk_at "sw"
    refine ⟨fun z => (nomatch z), fun _ => tail fs hw.2 (by omega) hw.1 _ _ ?_⟩
    have e : (fs.map fun f => PyData.str (vd c rs f).s) = (fs.map (vd c rs)).map fun v => .str v.s := by rw [List.map_map] <;> rfl
    rw [e]
    refine due_last (fs.map (vd c rs)) .none .all (vall (fs.map (vd c rs))) (by rw [List.length_map]; omega) (fun h => vall_none.mpr h) (fun _ h => vall_all.mpr h) (fun h g => ?_) p
    cases e2 : vall (fs.map (vd c rs)) with
    | none => exact absurd (vall_none.mp e2) h
    | all => exact absurd (vall_all.mp e2) g
    | some => rfl
  | dis fs =>
    simp only [Fil.wf, Fil.dep] at hw hd
    simp only [Fil.enc, vd] at p ⊢
    walk_at "dl"
    rw [encs_map] at *
    rw [vds_map] at p
    refine ⟨sz2, two, ?_⟩
    rw [any2]
    walk_at "sw"
    refine ⟨fun z => (nomatch z), fun _ => tail fs hw.2 (by omega) hw.1 _ _ ?_⟩
    have e : (fs.map fun f => PyData.str (vd c rs f).s) = (fs.map (vd c rs)).map fun v => .str v.s := by rw [List.map_map] <;> rfl
    rw [e]
    have o1 : Vd.none ∈ (fs.map (vd c rs)).map Vd.opp ↔ Vd.all ∈ fs.map (vd c rs) := by
      constructor
      · intro h; obtain ⟨w, hw, e⟩ := List.mem_map.mp h; rw [← opp_none.mp e]; exact hw
      · intro h; exact List.mem_map.mpr ⟨_, h, rfl⟩
    have o2 : (∀ w ∈ (fs.map (vd c rs)).map Vd.opp, w = .all) ↔ ∀ w ∈ fs.map (vd c rs), w = .none := by
      constructor
      · intro h w hw; exact opp_all.mp (h _ (List.mem_map.mpr ⟨w, hw, rfl⟩))
      · intro h w hw; obtain ⟨u, hu, e⟩ := List.mem_map.mp hw; rw [← e, h u hu]; rfl
    refine due_last (fs.map (vd c rs)) .all .none _ (by rw [List.length_map]; omega) (fun h => opp_all.mpr (vall_none.mpr (o1.mpr h))) (fun _ h => opp_none.mpr (vall_all.mpr (o2.mpr h))) (fun h g => opp_some.mpr ?_) p
    cases e2 : vall ((fs.map (vd c rs)).map Vd.opp) with
    | none => exact absurd (o1.mp (vall_none.mp e2)) h
    | all => exact absurd (o2.mp (vall_all.mp e2)) g
    | some => rfl
end D8
namespace D8
open PySem PySem.Spec PyProof.Rows L2
local macro_rules | `(tactic| walk_at "dl") => `(tactic| simp only [wSeq, wIfS, wRet, wAsg, wPar, wNext, wB, wOp, wUn, wNeg, wVar, wC, wIx, wEqD, wNeD, wInD, wNotInD, wI, wTup, wLst, wCons, wNil, wCB, wCall, wCallH, wCal2, wIfE, wAnd, wOr, wNot, wAndV, wOrV, wNotV, wChain, wIsN, wNotN, wgName, wgTup, wgCons, wgNil, wL, wYes, wSl, wPart, wNoPart, wCat, wCatT, wRep,
  wLen, wMin2, wMax2, wAll, wAny, wTupOf, wListOf, wInt1, wOwn, wApp, wFrz, wIxOwn, wDrop, dats, List.map_cons, List.map_nil, List.cons_append, List.nil_append, List.replicate, List.set_cons_zero, List.set_cons_succ, List.getElem?_cons_zero, List.getElem?_cons_succ, Option.some.injEq, Sl.dat.injEq, Sl.own.injEq, exists_eq_left', exists_eq_left, exists_eq_right', exists_eq_right,
  PyData.tuple.injEq, PyData.list.injEq, PyData.int.injEq, PyData.str.injEq, PyData.bool.injEq, List.cons.injEq, reduceCtorEq, false_or, or_false, false_and, and_false, and_true, true_and, exists_const, exists_false, eqv_str, eqv_int, eqv_bool, shaped_int, shaped_bool, and_assoc, exists_and_left, List.length_cons, List.length_nil, Nat.reduceAdd, Nat.zero_add, at0, at1, at2, at3, cut1, cut2, beq_self_eq_true, Bool.not_true, Bool.not_false, Bool.false_eq_true, false_implies, true_implies, forall_const, eq_self_iff_true, forall_eq, forall_eq', Bool.true_eq_false, sw_all_has, sw_all_in, sw_all_not, sw_all_and, sw_all_or, sw_all_none, sw_all_some, sw_has_all, sw_has_in, sw_has_not, sw_has_and, sw_has_or, sw_has_none, sw_has_some, sw_in_all, sw_in_has, sw_in_not, sw_in_and, sw_in_or, sw_in_none, sw_in_some, sw_not_all, sw_not_has, sw_not_in, sw_not_and, sw_not_or, sw_not_none, sw_not_some, sw_and_all, sw_and_has, sw_and_in, sw_and_not, sw_and_or, sw_and_none, sw_and_some, sw_or_all, sw_or_has, sw_or_in, sw_or_not, sw_or_and, sw_or_none, sw_or_some, sw_none_all, sw_none_has, sw_none_in, sw_none_not, sw_none_and, sw_none_or, sw_none_some, sw_some_all, sw_some_has, sw_some_in, sw_some_not, sw_some_and, sw_some_or, sw_some_none, shw_all, shw_has, shw_in, shw_not, shw_and, shw_or, shw_none, shw_some])
local macro_rules | `(tactic| walk_at "sw") => `(tactic| simp only [sw_all_has, sw_all_in, sw_all_not, sw_all_and, sw_all_or, sw_all_none, sw_all_some, sw_has_all, sw_has_in, sw_has_not, sw_has_and, sw_has_or, sw_has_none, sw_has_some, sw_in_all, sw_in_has, sw_in_not, sw_in_and, sw_in_or, sw_in_none, sw_in_some, sw_not_all, sw_not_has, sw_not_in, sw_not_and, sw_not_or, sw_not_none, sw_not_some, sw_and_all, sw_and_has, sw_and_in, sw_and_not, sw_and_or, sw_and_none, sw_and_some, sw_or_all, sw_or_has, sw_or_in, sw_or_not, sw_or_and, sw_or_none, sw_or_some, sw_none_all, sw_none_has, sw_none_in, sw_none_not, sw_none_and, sw_none_or, sw_none_some, sw_some_all, sw_some_has, sw_some_in, sw_some_not, sw_some_and, sw_some_or, sw_some_none, beq_self_eq_true])
/-! ### one statement at a time -/
theorem seq_step {a b : WS} {E : We8} {ρ : List Sl} (ρ' : List Sl) (h : ∀ N : List Sl → Prop, N ρ' → a { E with nx := N } ρ) (hb : b E ρ') : wSeq a b E ρ := h (b E) hb
theorem seq_any {a b : WS} {E : We8} {ρ : List Sl} (J : List Sl → Prop) (h : ∀ N : List Sl → Prop, (∀ ρ', J ρ' → N ρ') → a { E with nx := N } ρ) (hb : ∀ ρ', J ρ' → b E ρ') : wSeq a b E ρ := h (b E) hb
/-! ### is a verdict right for the lots it tells of -/
def N8 : Nat := 16
def S_law_told_right : S8 := fun ds P => ∃ (f : Fil) (rs : List Rw) (lss : List Lab), ds = [f.enc, encT lss.length rs, .list (lss.map encL)] ∧ f.wf ∧ f.dep + 1 < N8 ∧ Rok rs ∧ lss.length ≤ 60 ∧ (∀ ls ∈ lss, L8 ls) ∧ Tells rs lss ∧ P (.bool true)
theorem so_bools (b : Bool) : sok (if b then "True" else "False") := by
  have : ∀ b : Bool, PyData.strOk (if b then "True" else "False") = true := by decide +kernel
  exact this b
theorem eqv_vd (v w : Vd) : PyData.eqv (.str v.s) (.str w.s) = decide (v = w) := (eqv_str _ _).trans (beq_vd v w)
theorem any3 (v : Vd) : ([PyData.str "none", PyData.str "all", PyData.str "some"].any fun z => PyData.eqv z (.str v.s)) = true := by
  have e1 : PyData.eqv (.str "none") (.str v.s) = decide (.none = v) := eqv_vd .none v
  have e2 : PyData.eqv (.str "all") (.str v.s) = decide (.all = v) := eqv_vd .all v
  have e3 : PyData.eqv (.str "some") (.str v.s) = decide (.some = v) := eqv_vd .some v
  rw [List.any_cons, List.any_cons, List.any_cons, List.any_nil, e1, e2, e3]
  cases v <;> rfl
theorem three : SeqAt.shaped (.list [.str "none", .str "all", .str "some"]) = true := shaped_vds [.none, .all, .some]
theorem sz3 : 3 ≤ sizeLine := by rw [sizeLine_eq]; omega
theorem repr_same {N : Prop} {P : PyData → Prop} {b b' : Bool} (e : b = b') (k : N) : wRepr1 [.bool b] fun x => wRepr1 [.bool b'] fun y => SeqAt.shaped x = true ∧ SeqAt.shaped y = true ∧ ((!PyData.eqv x y) = true → P (.bool false)) ∧ ((!PyData.eqv x y) = false → N) := by
  subst e
  refine .inl ⟨_, rfl, .inl ⟨_, rfl, shaped_str (so_bools _), shaped_str (so_bools _), ?_⟩⟩
  rw [eqv_str, beq_self_eq_true]
  exact ⟨fun z => (nomatch z), fun _ => k⟩
theorem repr_imp {b : Bool} {P Q : PyData → Prop} (h : ∀ d, P d → Q d) (q : wRepr1 [.bool b] P) : wRepr1 [.bool b] Q := by
  rcases q with ⟨b', e, q⟩ | ⟨z, e, _⟩
  · exact .inl ⟨b', e, h _ q⟩
  · cases e
theorem law_law_told_right : ∀ ds P, S_law_told_right ds P → w_law_told_right (S_verdict N8) (S_may_pass N8) (S_must_pass N8) (S_law_lets N8) (S_passes N8) { nx := fun _ => P .none, rt := P } (dats ds 3) := by
  rintro ds P ⟨f, rs, lss, rfl, hw, hd, hr, hl, h8, ht, p⟩
  unfold w_law_told_right
  generalize hv : verd lss.length rs f = v
  have sv := shaped_vd v
  have en1 : (v.s == ("none" : Str)) = decide (v = .none) := beq_vd v .none
  have en2 : (v.s == ("all" : Str)) = decide (v = .all) := beq_vd v .all
  have may : ∀ Q : PyData → Prop, Q (.bool !(v.s == ("none" : Str))) → S_may_pass N8 [f.enc, encT lss.length rs] Q := fun Q q => ⟨f, lss.length, rs, rfl, hw, by omega, hr, by
    rw [hv]
    have : decide (v ≠ .none) = !(v.s == ("none" : Str)) := by rw [en1]; cases v <;> rfl
    rw [this]; exact q⟩
  have must : ∀ Q : PyData → Prop, Q (.bool ((v.s == ("all" : Str)) || ((lss.length : Int) == 0))) → S_must_pass N8 [f.enc, encT lss.length rs] Q := fun Q q => ⟨f, lss.length, rs, rfl, hw, by omega, hr, by
    rw [hv]
    have : decide ((lss.length : Int) = 0 ∨ v = .all) = ((v.s == ("all" : Str)) || ((lss.length : Int) == 0)) := by rw [en2, Bool.eq_iff_iff, Bool.or_eq_true, decide_eq_true_iff, decide_eq_true_iff, beq_iff_eq]; exact Or.comm
    rw [this]; exact q⟩
  refine seq_step [.dat f.enc, .dat (encT lss.length rs), .dat (.list (lss.map encL)), .dat (.str v.s), .un, .un] (fun N k => ?_) ?_
  · walk_at "dl"
    exact ⟨f, lss.length, rs, rfl, hw, by omega, hr, by rw [hv]; exact k⟩
  refine seq_step [.dat f.enc, .dat (encT lss.length rs), .dat (.list (lss.map encL)), .dat (.str v.s), .un, .un] (fun N k => ?_) ?_
  · walk_at "dl"
    rw [any3]
    refine ⟨sz3, sv, three, fun z => (nomatch z), fun _ => may _ (repr_imp (fun d q => ⟨sv, q⟩) (repr_same rfl k))⟩
  refine seq_step [.dat f.enc, .dat (encT lss.length rs), .dat (.list (lss.map encL)), .dat (.str v.s), .un, .un] (fun N k => ?_) ?_
  · simp only [encT] at must k ⊢
    walk_at "dl"
    refine must _ (repr_imp (fun d q => ⟨sv, q⟩) ?_)
    cases h1 : (v.s == ("all" : Str)) with
    | true => exact repr_imp (fun d q => ⟨fun _ => q, fun z => (nomatch z)⟩) (repr_same rfl k)
    | false => exact repr_imp (fun d q => ⟨fun z => (nomatch z), fun _ => q⟩) (repr_same rfl k)
  refine seq_step [.dat f.enc, .dat (encT lss.length rs), .dat (.list (lss.map encL)), .dat (.str v.s), .un, .un] (fun N k => ?_) ?_
  · simp only [encT] at may must k ⊢
    walk_at "dl"
    refine may _ ⟨sv, shaped_bool _, ?_⟩
    rw [eqv_bool, beq_self_eq_true]
    refine ⟨fun z => (nomatch z), fun _ => must _ ⟨sv, fun y => ⟨shaped_bool _, ?_⟩, fun y => ⟨shaped_bool _, ?_⟩⟩⟩
    · rw [eqv_bool, y]
      exact ⟨fun z => (nomatch z), fun _ => k⟩
    · rw [eqv_bool, y, Bool.false_or, beq_self_eq_true]
      exact ⟨fun z => (nomatch z), fun _ => k⟩
  refine seq_step [.dat f.enc, .dat (encT lss.length rs), .dat (.list (lss.map encL)), .dat (.str v.s), .un, .un] (fun N k => ?_) ?_
  · simp only [encT] at k ⊢
    walk_at "dl"
    refine ⟨fun z => ⟨sz2, .neg f, lss.length, rs, by simp only [Fil.enc, encT], by simp only [Fil.wf]; exact hw, by simp only [Fil.dep]; exact hd, hr, _, rfl, ?_⟩, fun _ => k⟩
    have hc : ¬ (lss.length : Int) = 0 := by have := of_decide_eq_true z; omega
    have hv2 : verd lss.length rs (.neg f) = v.opp := by
      rw [verd_pos hc] at hv ⊢
      simp only [vd]; rw [hv]
    rw [hv2]
    exact dict_opp (P := fun y => SeqAt.shaped (.str v.opp.s) = true ∧ SeqAt.shaped y = true ∧ ((!PyData.eqv (.str v.opp.s) y) = true → P (.bool false)) ∧ ((!PyData.eqv (.str v.opp.s) y) = false → N _)) ⟨shaped_vd _, shaped_vd _, by rw [eqv_str, beq_self_eq_true]; exact ⟨fun z => (nomatch z), fun _ => k⟩⟩
  refine seq_any (fun ρ => ∃ x4 x5, ρ = [.dat f.enc, .dat (encT lss.length rs), .dat (.list (lss.map encL)), .dat (.str v.s), x4, x5]) (fun N k => ?_) fun ρ' hJ => ?_
  · refine ⟨_, rfl, _, .inl rfl, for_inv lss encL (fun pre ρ => ∃ x4 x5, ρ = [.dat f.enc, .dat (encT lss.length rs), .dat (.list (lss.map encL)), .dat (.str v.s), x4, x5]) ⟨_, _, rfl⟩ (fun pre ls post ρ' N er hJ k => ?_) k⟩
    obtain ⟨x4, x5, rfl⟩ := hJ
    walk_at "dl"
    have hls : ls ∈ lss := by rw [er]; exact List.mem_append_right _ List.mem_cons_self
    have so := verd_sound ht (f := f) hls
    rw [hv] at so
    refine ⟨f, ls, rfl, hw, by omega, h8 ls hls, Nat.zero_le _, sz3, f, _, _, ls, rfl, hw, by omega, (h8 ls hls).lok, shaped_bool _, shaped_bool _, ?_⟩
    rw [eqv_bool, beq_self_eq_true]
    have hk := k _ ⟨.dat (encL ls), .dat (.bool (lets ls f)), rfl⟩
    have last : SeqAt.shaped (.str v.s) = true ∧ ((v.s == ("all" : Str)) = true → ∃ b, PyData.bool (lets ls f) = .bool b ∧ ((!b) = true → P (.bool false)) ∧ ((!b) = false → N [.dat f.enc, .dat (encT lss.length rs), .dat (.list (lss.map encL)), .dat (.str v.s), .dat (encL ls), .dat (.bool (lets ls f))])) ∧
        ((v.s == ("all" : Str)) = false → N [.dat f.enc, .dat (encT lss.length rs), .dat (.list (lss.map encL)), .dat (.str v.s), .dat (encL ls), .dat (.bool (lets ls f))]) := by
      refine ⟨sv, fun z => ⟨_, rfl, fun y => ?_, fun _ => hk⟩, fun _ => hk⟩
      rw [en2] at z
      rw [so.2 (of_decide_eq_true z)] at y
      cases y
    refine ⟨fun z => (nomatch z), fun _ => ⟨sv, fun z => ⟨_, rfl, fun y => ?_, fun _ => last⟩, fun _ => last⟩⟩
    rw [en1] at z
    rw [so.1 (of_decide_eq_true z)] at y
    cases y
  · obtain ⟨x4, x5, rfl⟩ := hJ
    walk_at "dl"
    refine ⟨f, lss.length, rs, rfl, hw, by omega, hr, shaped_vd _, sv, ?_⟩
    rw [hv, eqv_str, beq_self_eq_true]
    exact p
end D8
namespace D8
open PySem PySem.Spec PyProof.Rows L2
local macro_rules | `(tactic| walk_at "dl") => `(tactic| simp only [wSeq, wIfS, wRet, wAsg, wPar, wNext, wB, wOp, wUn, wNeg, wVar, wC, wIx, wEqD, wNeD, wInD, wNotInD, wI, wTup, wLst, wCons, wNil, wCB, wCall, wCallH, wCal2, wIfE, wAnd, wOr, wNot, wAndV, wOrV, wNotV, wChain, wIsN, wNotN, wgName, wgTup, wgCons, wgNil, wL, wYes, wSl, wPart, wNoPart, wCat, wCatT, wRep,
  wLen, wMin2, wMax2, wAll, wAny, wTupOf, wListOf, wInt1, wOwn, wApp, wFrz, wIxOwn, wDrop, dats, List.map_cons, List.map_nil, List.cons_append, List.nil_append, List.replicate, List.set_cons_zero, List.set_cons_succ, List.getElem?_cons_zero, List.getElem?_cons_succ, Option.some.injEq, Sl.dat.injEq, Sl.own.injEq, exists_eq_left', exists_eq_left, exists_eq_right', exists_eq_right,
  PyData.tuple.injEq, PyData.list.injEq, PyData.int.injEq, PyData.str.injEq, PyData.bool.injEq, List.cons.injEq, reduceCtorEq, false_or, or_false, false_and, and_false, and_true, true_and, exists_const, exists_false, eqv_str, eqv_int, eqv_bool, shaped_int, shaped_bool, and_assoc, exists_and_left, List.length_cons, List.length_nil, Nat.reduceAdd, Nat.zero_add, at0, at1, at2, at3, cut1, cut2, beq_self_eq_true, Bool.not_true, Bool.not_false, Bool.false_eq_true, false_implies, true_implies, forall_const, eq_self_iff_true, forall_eq, forall_eq', Bool.true_eq_false, sw_all_has, sw_all_in, sw_all_not, sw_all_and, sw_all_or, sw_all_none, sw_all_some, sw_has_all, sw_has_in, sw_has_not, sw_has_and, sw_has_or, sw_has_none, sw_has_some, sw_in_all, sw_in_has, sw_in_not, sw_in_and, sw_in_or, sw_in_none, sw_in_some, sw_not_all, sw_not_has, sw_not_in, sw_not_and, sw_not_or, sw_not_none, sw_not_some, sw_and_all, sw_and_has, sw_and_in, sw_and_not, sw_and_or, sw_and_none, sw_and_some, sw_or_all, sw_or_has, sw_or_in, sw_or_not, sw_or_and, sw_or_none, sw_or_some, sw_none_all, sw_none_has, sw_none_in, sw_none_not, sw_none_and, sw_none_or, sw_none_some, sw_some_all, sw_some_has, sw_some_in, sw_some_not, sw_some_and, sw_some_or, sw_some_none, shw_all, shw_has, shw_in, shw_not, shw_and, shw_or, shw_none, shw_some])
local macro_rules | `(tactic| walk_at "sw") => `(tactic| simp only [sw_all_has, sw_all_in, sw_all_not, sw_all_and, sw_all_or, sw_all_none, sw_all_some, sw_has_all, sw_has_in, sw_has_not, sw_has_and, sw_has_or, sw_has_none, sw_has_some, sw_in_all, sw_in_has, sw_in_not, sw_in_and, sw_in_or, sw_in_none, sw_in_some, sw_not_all, sw_not_has, sw_not_in, sw_not_and, sw_not_or, sw_not_none, sw_not_some, sw_and_all, sw_and_has, sw_and_in, sw_and_not, sw_and_or, sw_and_none, sw_and_some, sw_or_all, sw_or_has, sw_or_in, sw_or_not, sw_or_and, sw_or_none, sw_or_some, sw_none_all, sw_none_has, sw_none_in, sw_none_not, sw_none_and, sw_none_or, sw_none_some, sw_some_all, sw_some_has, sw_some_in, sw_some_not, sw_some_and, sw_some_or, sw_some_none, beq_self_eq_true])
/-! ### drawn things -/
def S_law_pick : S8 := fun ds P => ∃ xs : List PyData, ds = [.list xs] ∧ 0 < xs.length ∧ xs.length ≤ 1000 ∧ ∀ x ∈ xs, P x
theorem atI_of {α : Type} {xs : List α} {k : Int} (h0 : 0 ≤ k) (h : k < xs.length) : ∃ x, atI xs k = some x ∧ x ∈ xs := by
  obtain ⟨j, rfl⟩ := Int.eq_ofNat_of_zero_le h0
  have hj : j < xs.length := by omega
  exact ⟨xs[j], atI_nat (List.getElem?_eq_getElem hj), List.getElem_mem hj⟩
theorem law_law_pick : ∀ ds P, S_law_pick ds P → w_law_pick S_law_draw { nx := fun _ => P .none, rt := P } (.heap :: dats ds 0) := by
  rintro ds P ⟨xs, rfl, h0, h1, p⟩
  unfold w_law_pick
  walk_at "dl"
  refine ⟨xs.length, rfl, by omega, by omega, fun k k0 k1 => ?_⟩
  obtain ⟨x, e, hx⟩ := atI_of k0 k1
  exact ⟨k, rfl, x, e, p x hx⟩
def unS : PyData → Str
  | .str x => x
  | _ => Str.empty
theorem unS_map (xs : List Str) : (xs.map PyData.str).map unS = xs := by
  rw [List.map_map]
  exact (List.map_congr_left fun x _ => rfl).trans (List.map_id xs)
theorem perm_strs {ys : List PyData} {xs : List Str} (h : ys.Perm (xs.map .str)) : ∃ zs : List Str, ys = zs.map .str ∧ zs.Perm xs := by
  refine ⟨ys.map unS, ?_, ?_⟩
  · rw [List.map_map]
    have : ys.map id = ys.map (PyData.str ∘ unS) := List.map_congr_left fun y hy => by
      obtain ⟨x, _, e⟩ := List.mem_map.mp (h.mem_iff.mp hy)
      rw [← e]; rfl
    rw [← this, List.map_id]
  · have := h.map unS
    rwa [unS_map] at this
structure Ns (ns : List Str) (m : Nat) : Prop where
  nd : ns.Nodup
  u8 : ∀ n ∈ ns, n ∈ U8
  len : ns.length = m
def S_law_names : S8 := fun ds P => ∃ m : Nat, ds = [.int m] ∧ m ≤ 8 ∧ ∀ ns, Ns ns m → P (.list (ns.map .str))
theorem u8_nd : U8.Nodup := by decide +kernel
theorem plain_str {x : Str} (h : sok x) : Plain8 (.str x) := ⟨by simp only [PyData.canLay0]; exact h, by simp only [PyData.depth]; omega⟩
theorem law_law_names : ∀ ds P, S_law_names ds P → w_law_names S_law_mixed { nx := fun _ => P .none, rt := P } (.heap :: dats ds 1) := by
  rintro ds P ⟨m, rfl, hm, p⟩
  unfold w_law_names
  walk_at "dl"
  refine ⟨by rw [sizeLine_eq]; omega, U8.map .str, rfl, (show 8 ≤ 900 by decide), fun x hx => ?_, fun ys hy => ?_⟩
  · obtain ⟨n, hn, e⟩ := List.mem_map.mp hx
    rw [← e]; exact plain_str (u8_sok hn)
  obtain ⟨zs, rfl, hz⟩ := perm_strs hy
  have hzl : zs.length = 8 := hz.length_eq
  refine .inr ⟨_, rfl, ?_⟩
  rw [cut_to, ← List.map_take]
  refine ⟨zs.take m, rfl, by rw [List.length_take]; omega, fun ws hw hs => p ws ⟨?_, fun n hn => ?_, ?_⟩⟩
  · exact hw.nodup_iff.mpr ((hz.nodup_iff.mpr u8_nd).sublist (List.take_sublist _ _))
  · exact hz.mem_iff.mp (List.mem_of_mem_take (hw.mem_iff.mp hn))
  · rw [hw.length_eq, List.length_take]; omega
/-! ### a drawn filter -/
inductive Gn (ns : List Str) : Nat → Fil → Prop
  | all (d) : Gn ns d .all
  | has (d) {n} (h : n ∈ ns) : Gn ns d (.has n)
  | rng (d) {n lo hi} (h : n ∈ ns) (h1 : -100 ≤ lo) (h2 : lo ≤ hi) (h3 : hi ≤ 300) : Gn ns d (.rng n lo hi)
  | neg {d f} (h : Gn ns d f) : Gn ns (d + 1) (.neg f)
  | con {d fs} (hl : fs.length ≤ 4) (h : ∀ f ∈ fs, Gn ns d f) : Gn ns (d + 1) (.con fs)
  | dis {d fs} (hl : fs.length ≤ 4) (h : ∀ f ∈ fs, Gn ns d f) : Gn ns (d + 1) (.dis fs)
theorem Gn.up {ns : List Str} {d : Nat} {f : Fil} (h : Gn ns d f) : Gn ns (d + 1) f := by
  induction h with
  | all d => exact .all _
  | has d h => exact .has _ h
  | rng d h h1 h2 h3 => exact .rng _ h h1 h2 h3
  | neg h ih => exact .neg ih
  | con hl h ih => exact .con hl ih
  | dis hl h ih => exact .dis hl ih
theorem Gn.wf {ns : List Str} {d : Nat} {f : Fil} (hs : ∀ n ∈ ns, sok n) (h : Gn ns d f) : f.wf := by
  have wfs : ∀ {fs : List Fil}, (∀ f ∈ fs, f.wf) → Fil.wfs fs := fun {fs} => by
    induction fs with
    | nil => intro _; simp only [Fil.wfs]
    | cons f fs ih => intro h; simp only [Fil.wfs]; exact ⟨h f List.mem_cons_self, ih fun g hg => h g (List.mem_cons_of_mem _ hg)⟩
  induction h with
  | all d => simp only [Fil.wf]
  | has d h => simp only [Fil.wf]; exact hs _ h
  | rng d h h1 h2 h3 => simp only [Fil.wf]; exact ⟨hs _ h, h2⟩
  | neg h ih => simp only [Fil.wf]; exact ih
  | con hl h ih => simp only [Fil.wf]; exact ⟨by omega, wfs ih⟩
  | dis hl h ih => simp only [Fil.wf]; exact ⟨by omega, wfs ih⟩
theorem Gn.dep {ns : List Str} {d : Nat} {f : Fil} (h : Gn ns d f) : f.dep ≤ d := by
  have deps : ∀ {d : Nat} {fs : List Fil}, (∀ f ∈ fs, f.dep ≤ d) → Fil.deps fs ≤ d := fun {d fs} => by
    induction fs with
    | nil => intro _; simp only [Fil.deps]; omega
    | cons f fs ih => intro h; simp only [Fil.deps]; exact Nat.max_le.mpr ⟨h f List.mem_cons_self, ih fun g hg => h g (List.mem_cons_of_mem _ hg)⟩
  induction h with
  | all d => simp only [Fil.dep]; omega
  | has d h => simp only [Fil.dep]; omega
  | rng d h h1 h2 h3 => simp only [Fil.dep]; omega
  | neg h ih => simp only [Fil.dep]; omega
  | con hl h ih => simp only [Fil.dep]; have := deps ih; omega
  | dis hl h ih => simp only [Fil.dep]; have := deps ih; omega
def S_law_single : S8 := fun ds P => ∃ (ns : List Str) (sp : Int), ds = [.list (ns.map .str), .int sp] ∧ 0 < ns.length ∧ ns.length ≤ 20 ∧ 0 < sp ∧ sp ≤ 100 ∧ ∀ f, Gn ns 0 f → P f.enc
theorem law_law_single : ∀ ds P, S_law_single ds P → w_law_single S_law_pick S_law_draw { nx := fun _ => P .none, rt := P } (.heap :: dats ds 2) := by
  rintro ds P ⟨ns, sp, rfl, h0, h1, s0, s1, p⟩
  unfold w_law_single
  walk_at "dl"
  refine ⟨_, rfl, by rw [List.length_map]; omega, by rw [List.length_map]; omega, fun x hx => ?_⟩
  obtain ⟨n, hn, rfl⟩ := List.mem_map.mp hx
  refine ⟨3, rfl, by omega, by omega, fun k k0 k1 => ⟨shaped_int _, fun _ => ⟨sz2, ?_⟩, fun _ => ⟨sp, rfl, s0, by omega, fun i i0 i1 => ⟨i, rfl, by rw [sizeLine_eq]; omega, _, rfl, (show 0 < 5 by decide), (show 5 ≤ 1000 by decide), fun y hy => ?_⟩⟩⟩⟩
  · have := p (.has n) (.has _ hn)
    simp only [Fil.enc] at this
    exact this
  · have : ∃ x : Int, y = .int x ∧ 0 ≤ x ∧ x ≤ 100 := by
      simp only [List.mem_cons, List.not_mem_nil, or_false] at hy
      rcases hy with e | e | e | e | e
      · exact ⟨0, e, by omega, by omega⟩
      · exact ⟨0, e, by omega, by omega⟩
      · exact ⟨1, e, by omega, by omega⟩
      · exact ⟨2, e, by omega, by omega⟩
      · exact ⟨sp, e, by omega, by omega⟩
    obtain ⟨x, rfl, x0, x1⟩ := this
    refine ⟨x, rfl, by rw [sizeLine_eq]; omega, ?_⟩
    have := p (.rng n (i - 2) (i - 2 + x)) (.rng _ hn (by omega) (by omega) (by omega))
    simp only [Fil.enc] at this
    exact this
def S_law_sieve (n : Nat) : S8 := fun ds P => ∃ (ns : List Str) (sp : Int) (d : Nat), ds = [.list (ns.map .str), .int sp, .int d] ∧ d < n ∧ 0 < ns.length ∧ ns.length ≤ 20 ∧ 0 < sp ∧ sp ≤ 100 ∧ ∀ f, Gn ns (2 * d) f → P f.enc
theorem gn_add {ns : List Str} {d : Nat} {f : Fil} (h : Gn ns d f) : ∀ k, Gn ns (d + k) f
  | 0 => h
  | k + 1 => (gn_add h k).up
theorem law_law_sieve (n : Nat) : ∀ ds P, S_law_sieve (n + 1) ds P → w_law_sieve S_law_pick S_law_draw S_law_single (S_law_sieve n) { nx := fun _ => P .none, rt := P } (.heap :: dats ds 3) := by
  rintro ds P ⟨ns, sp, d, rfl, hd, h0, h1, s0, s1, p⟩
  unfold w_law_sieve
  have single : ∀ Q : PyData → Prop, (∀ f, Gn ns (2 * d) f → Q f.enc) → S_law_single [.list (ns.map .str), .int sp] Q := fun Q q => ⟨ns, sp, rfl, h0, h1, s0, s1, fun f hf => q f (by have := gn_add hf (2 * d); rwa [Nat.zero_add] at this)⟩
  have wds : ∀ w : Str, w = "has" ∨ w = "in" ∨ w = "not" ∨ w = "and" ∨ w = "or" ∨ w = "all" → sok w := fun w h => by
    rcases h with e | e | e | e | e | e <;> rw [e]
    · exact so_has
    · exact so_in
    · exact so_not
    · exact so_and
    · exact so_or
    · exact so_all
  have two : SeqAt.shaped (.list [.str "and", .str "or"]) = true := shaped_strs (xs := ["and", "or"]) fun x hx => by
    rcases List.mem_cons.mp hx with e | hx
    · rw [e]; exact so_and
    · rw [List.mem_singleton.mp hx]; exact so_or
  have an2 : ∀ w : Str, ([PyData.str "and", PyData.str "or"].any fun z => PyData.eqv z (.str w)) = (("and" == w) || ("or" == w)) := fun w => by
    rw [List.any_cons, List.any_cons, List.any_nil, eqv_str, eqv_str, Bool.or_false]
  have branch : ∀ w : Str, 0 < d → (∀ fs : List Fil, fs.length ≤ 4 → (∀ f ∈ fs, Gn ns (2 * d - 1) f) → P (.tuple (.str w :: fs.map Fil.enc))) →
      wLc (wRng1 (wCons (wOp (wI (fun _ _ => True) fun i j => .int (i + j)) (wC (.int 2)) (wCallH S_law_draw 0 (wCons (wC (.int 2)) wNil))) wNil)) (wgName 6) wYes
        (wCallH (S_law_sieve n) 0 (wCons (wVar 1) (wCons (wVar 2) (wCons (wOp (wI (fun _ _ => True) fun i j => .int (i - j)) (wVar 3) (wC (.int 1))) wNil)))) [6]
        [.heap, .dat (.list (ns.map .str)), .dat (.int sp), .dat (.int d), .dat (.str w), .un, .un] fun ds => 5 < 7 ∧ S_law_draw [.int 5] fun x => SeqAt.shaped x = true ∧
          (PyData.eqv x (.int 0) = true → (∃ ds0, Ow.lst ds = Ow.lst ds0) ∧ (∃ ds0, Ow.lst ds = Ow.lst ds0) ∧ ∃ ds_1, Ow.lst ds = Ow.lst ds_1 ∧ ∃ x, atI ds_1 0 = some x ∧ (∃ ds0, Ow.lst ds = Ow.lst ds0) ∧ ∃ ds_2, Ow.lst ds = Ow.lst ds_2 ∧ ∃ x_1, atI ds_2 0 = some x_1 ∧ 2 ≤ sizeLine ∧ 2 ≤ sizeLine ∧
            S_law_pick [.list [x, .tuple [.str "not", x_1]]] fun d => ∃ ds_3, Ow.lst ds = Ow.lst ds_3 ∧ ds_3.length < sizeLine ∧ ∃ ds, Ow.lst (ds_3 ++ [d]) = Ow.lst ds ∧ 1 ≤ sizeLine ∧ [PyData.str w] ≠ [] ∧ 1 + ds.length ≤ sizeLine ∧ P (.tuple (.str w :: ds))) ∧
          (PyData.eqv x (.int 0) = false → ∃ ds_1, Ow.lst ds = Ow.lst ds_1 ∧ 1 ≤ sizeLine ∧ [PyData.str w] ≠ [] ∧ 1 + ds_1.length ≤ sizeLine ∧ P (.tuple (.str w :: ds_1))) := fun w hd0 last => by
    refine ⟨rfl, rfl, 2, rfl, by omega, by omega, fun k k0 k1 => ⟨2, k, rfl, rfl, trivial, 2 + k, rfl, by omega, by omega, ?_⟩⟩
    obtain ⟨j, rfl⟩ := Int.eq_ofNat_of_zero_le k0
    have ej : ((2 : Int) + (j : Nat)).toNat = 2 + j := by omega
    rw [ej]
    refine ⟨by rw [List.length_map, List.length_range]; omega, lc_any (List.range (2 + j)) (fun i => PyData.int (i : Nat)) (fun i acc => ∃ fs : List Fil, acc = fs.map Fil.enc ∧ fs.length = i ∧ ∀ f ∈ fs, Gn ns (2 * (d - 1)) f) ⟨[], rfl, rfl, fun _ h => (nomatch h)⟩ (fun i x acc hx hI => ?_) fun acc hI => ?_⟩
    · obtain ⟨fs, rfl, hl, hg⟩ := hI
      refine ⟨rfl, fun _ => ?_, fun z => (nomatch z)⟩
      walk_at "dl"
      refine ⟨ns, sp, d - 1, by rw [show ((d - 1 : Nat) : Int) = (d : Int) - 1 by omega], by omega, h0, h1, s0, s1, fun f hf => ⟨fs ++ [f], by rw [List.map_append] <;> rfl, by rw [List.length_append, hl] <;> rfl, fun g hg2 => ?_⟩⟩
      rcases List.mem_append.mp hg2 with hg2 | hg2
      · exact hg g hg2
      · rw [List.mem_singleton.mp hg2]; exact hf
    · obtain ⟨fs, rfl, hl, hg⟩ := hI
      rw [List.length_range] at hl
      have up : ∀ f ∈ fs, Gn ns (2 * d - 1) f := fun f hf => by
        have := (hg f hf).up
        rwa [show 2 * (d - 1) + 1 = 2 * d - 1 by omega] at this
      obtain ⟨f0, t, ef⟩ := List.exists_cons_of_ne_nil (show fs ≠ [] from fun e => by rw [e, List.length_nil] at hl; omega)
      refine ⟨by omega, 5, rfl, by omega, by omega, fun q q0 q1 => ⟨shaped_int _, fun _ => ?_, fun _ => ⟨_, rfl, by rw [sizeLine_eq]; omega, by simp, by rw [List.length_map, sizeLine_eq]; omega, last fs (by omega) up⟩⟩⟩
      have a0 : atI (fs.map Fil.enc) 0 = some f0.enc := by rw [ef]; exact at0 _ _
      refine ⟨⟨_, rfl⟩, ⟨_, rfl⟩, _, rfl, _, a0, ⟨_, rfl⟩, _, rfl, _, a0, sz2, sz2, _, rfl, (show 0 < 2 by decide), (show 2 ≤ 1000 by decide), fun x hx => ?_⟩
      have : ∃ g : Fil, x = g.enc ∧ Gn ns (2 * d - 1) g := by
        have hf0 : f0 ∈ fs := by rw [ef]; exact List.mem_cons_self
        simp only [List.mem_cons, List.not_mem_nil, or_false] at hx
        rcases hx with e | e
        · exact ⟨f0, e, up f0 hf0⟩
        · refine ⟨.neg f0, by rw [e]; simp only [Fil.enc], ?_⟩
          have := Gn.neg (hg f0 hf0)
          rwa [show 2 * (d - 1) + 1 = 2 * d - 1 by omega] at this
      obtain ⟨g, rfl, hg2⟩ := this
      have em : fs.map Fil.enc ++ [g.enc] = (fs ++ [g]).map Fil.enc := by rw [List.map_append] <;> rfl
      refine ⟨_, rfl, by rw [List.length_map, sizeLine_eq]; omega, (fs ++ [g]).map Fil.enc, by rw [← em], by rw [sizeLine_eq]; omega, by simp, by rw [List.length_map, List.length_append, sizeLine_eq]; simp; omega, last (fs ++ [g]) (by rw [List.length_append]; simp; omega) fun f hf => ?_⟩
      rcases List.mem_append.mp hf with hf | hf
      · exact up f hf
      · rw [List.mem_singleton.mp hf]; exact hg2
  refine seq_any (fun ρ => ∃ w : Str, ρ = [.heap, .dat (.list (ns.map .str)), .dat (.int sp), .dat (.int d), .dat (.str w), .un, .un] ∧ (w = "has" ∨ w = "in" ∨ w = "not" ∨ w = "and" ∨ w = "or" ∨ w = "all") ∧ (0 < d ∨ w = "in")) (fun N k => ?_) fun ρ hJ => ?_
  · walk_at "dl"
    refine ⟨fun z => ⟨by rw [sizeLine_eq]; omega, _, rfl, (show 0 < 8 by decide), (show 8 ≤ 1000 by decide), fun x hx => ?_⟩, fun _ => k _ ⟨"in", rfl, .inr (.inl rfl), .inr rfl⟩⟩
    have hd0 : 0 < d := by have := of_decide_eq_true z; omega
    simp only [List.mem_cons, List.not_mem_nil, or_false] at hx
    rcases hx with e | e | e | e | e | e | e | e <;> subst e <;> exact k _ ⟨_, rfl, by simp, .inl hd0⟩
  obtain ⟨w, rfl, hw, hd0⟩ := hJ
  rcases hw with e | e | e | e | e | e <;> subst e
  · walk_at "dl"
    rw [an2]
    walk_at "sw"
    exact ⟨sz2, two, fun z => (nomatch z), fun _ => single P p⟩
  · walk_at "dl"
    rw [an2]
    walk_at "sw"
    exact ⟨sz2, two, fun z => (nomatch z), fun _ => single P p⟩
  · walk_at "dl"
    have hd0 : 0 < d := by
      rcases hd0 with h | h
      · exact h
      · exact absurd h (by decide +kernel)
    refine ⟨ns, sp, d - 1, ?_, by omega, h0, h1, s0, s1, fun f hf => ⟨sz2, ?_⟩⟩
    · rw [show ((d - 1 : Nat) : Int) = (d : Int) - 1 by omega]
    · have := p (.neg f) (by have := (Gn.neg hf).up; rwa [show 2 * (d - 1) + 1 + 1 = 2 * d by omega] at this)
      simp only [Fil.enc] at this
      exact this
  · walk_at "dl"
    rw [an2]
    walk_at "sw"
    have hd0 : 0 < d := by
      rcases hd0 with h | h
      · exact h
      · exact absurd h (by decide +kernel)
    exact ⟨sz2, two, fun _ => branch "and" hd0 fun fs hl h => by
      have := p (.con fs) (by have := Gn.con hl h; rwa [show 2 * d - 1 + 1 = 2 * d by omega] at this)
      simp only [Fil.enc, encs_map] at this
      exact this, fun z => (nomatch z)⟩
  · walk_at "dl"
    rw [an2]
    walk_at "sw"
    have hd0 : 0 < d := by
      rcases hd0 with h | h
      · exact h
      · exact absurd h (by decide +kernel)
    exact ⟨sz2, two, fun _ => branch "or" hd0 fun fs hl h => by
      have := p (.dis fs) (by have := Gn.dis hl h; rwa [show 2 * d - 1 + 1 = 2 * d by omega] at this)
      simp only [Fil.enc, encs_map] at this
      exact this, fun z => (nomatch z)⟩
  · walk_at "dl"
    refine ⟨2, rfl, by omega, by omega, fun k k0 k1 => ⟨shaped_int _, fun _ => ⟨by rw [sizeLine_eq]; omega, ?_⟩, fun _ => single P p⟩⟩
    have := p .all (.all _)
    simp only [Fil.enc] at this
    exact this
/-! ### drawn labels -/
structure Sm (ls : Lab) : Prop extends L8 ls where
  lo : ∀ p ∈ ls, -100 ≤ p.2
  hi : ∀ p ∈ ls, p.2 ≤ 100
def S_law_labels : S8 := fun ds P => ∃ (ns : List Str) (sp : Int), ds = [.list (ns.map .str), .int sp] ∧ ns.Nodup ∧ (∀ n ∈ ns, n ∈ U8) ∧ 0 < sp ∧ sp ≤ 100 ∧ ∀ ls, Sm ls → P (encL ls)
theorem law_law_labels : ∀ ds P, S_law_labels ds P → w_law_labels S_law_draw { nx := fun _ => P .none, rt := P } (.heap :: dats ds 1) := by
  rintro ds P ⟨ns, sp, rfl, hn, hu, s0, s1, p⟩
  have h8 := u8_len hn hu
  unfold w_law_labels
  walk_at "dl"
  refine ⟨rfl, _, rfl, _, .inl rfl, by rw [List.length_map]; omega, lc_any ns PyData.str (fun i acc => ∃ ls : Lab, acc = ls.map encP ∧ (ls.map (·.1)).Sublist (ns.take i) ∧ ∀ p ∈ ls, -100 ≤ p.2 ∧ p.2 ≤ 100) ⟨[], rfl, by simp, fun _ h => (nomatch h)⟩ (fun i x acc hx hI => ?_) fun acc hI => ?_⟩
  · obtain ⟨ls, rfl, hs, hb⟩ := hI
    have et := take_snoc hx
    walk_at "dl"
    refine ⟨rfl, 3, rfl, by omega, by omega, fun k k0 k1 => ⟨k, rfl, fun _ => ⟨sp, rfl, s0, by omega, fun v v0 v1 => ⟨v, rfl, sz2, ls ++ [(x, v - 2)], ?_, ?_, fun p hp => ?_⟩⟩, fun _ => ⟨ls, rfl, hs.trans (by rw [et]; exact List.sublist_append_left _ _), hb⟩⟩⟩
    · rw [List.map_append] <;> rfl
    · rw [et, List.map_append]
      exact hs.append (List.Sublist.refl _)
    · rcases List.mem_append.mp hp with hp | hp
      · exact hb p hp
      · rw [List.mem_singleton.mp hp]
        show -100 ≤ v - 2 ∧ v - 2 ≤ 100
        omega
  · obtain ⟨ls, rfl, hs, hb⟩ := hI
    rw [List.take_length] at hs
    exact p ls ⟨⟨hn.sublist hs, fun q hq => hu _ (hs.subset (List.mem_map.mpr ⟨q, hq, rfl⟩))⟩, fun q hq => (hb q hq).1, fun q hq => (hb q hq).2⟩
end D8
namespace D8
open PySem PySem.Spec PyProof.Rows L2
local macro_rules | `(tactic| walk_at "dl") => `(tactic| simp only [wSeq, wIfS, wRet, wAsg, wPar, wNext, wB, wOp, wUn, wNeg, wVar, wC, wIx, wEqD, wNeD, wInD, wNotInD, wI, wTup, wLst, wCons, wNil, wCB, wCall, wCallH, wCal2, wIfE, wAnd, wOr, wNot, wAndV, wOrV, wNotV, wChain, wIsN, wNotN, wgName, wgTup, wgCons, wgNil, wL, wYes, wSl, wPart, wNoPart, wCat, wCatT, wRep,
  wLen, wMin2, wMax2, wAll, wAny, wTupOf, wListOf, wInt1, wOwn, wApp, wFrz, wIxOwn, wDrop, dats, List.map_cons, List.map_nil, List.cons_append, List.nil_append, List.replicate, List.set_cons_zero, List.set_cons_succ, List.getElem?_cons_zero, List.getElem?_cons_succ, Option.some.injEq, Sl.dat.injEq, Sl.own.injEq, exists_eq_left', exists_eq_left, exists_eq_right', exists_eq_right,
  PyData.tuple.injEq, PyData.list.injEq, PyData.int.injEq, PyData.str.injEq, PyData.bool.injEq, List.cons.injEq, reduceCtorEq, false_or, or_false, false_and, and_false, and_true, true_and, exists_const, exists_false, eqv_str, eqv_int, eqv_bool, shaped_int, shaped_bool, and_assoc, exists_and_left, List.length_cons, List.length_nil, Nat.reduceAdd, Nat.zero_add, at0, at1, at2, at3, cut1, cut2, beq_self_eq_true, Bool.not_true, Bool.not_false, Bool.false_eq_true, false_implies, true_implies, forall_const, eq_self_iff_true, forall_eq, forall_eq', Bool.true_eq_false, sw_all_has, sw_all_in, sw_all_not, sw_all_and, sw_all_or, sw_all_none, sw_all_some, sw_has_all, sw_has_in, sw_has_not, sw_has_and, sw_has_or, sw_has_none, sw_has_some, sw_in_all, sw_in_has, sw_in_not, sw_in_and, sw_in_or, sw_in_none, sw_in_some, sw_not_all, sw_not_has, sw_not_in, sw_not_and, sw_not_or, sw_not_none, sw_not_some, sw_and_all, sw_and_has, sw_and_in, sw_and_not, sw_and_or, sw_and_none, sw_and_some, sw_or_all, sw_or_has, sw_or_in, sw_or_not, sw_or_and, sw_or_none, sw_or_some, sw_none_all, sw_none_has, sw_none_in, sw_none_not, sw_none_and, sw_none_or, sw_none_some, sw_some_all, sw_some_has, sw_some_in, sw_some_not, sw_some_and, sw_some_or, sw_some_none, shw_all, shw_has, shw_in, shw_not, shw_and, shw_or, shw_none, shw_some])
local macro_rules | `(tactic| walk_at "sw") => `(tactic| simp only [sw_all_has, sw_all_in, sw_all_not, sw_all_and, sw_all_or, sw_all_none, sw_all_some, sw_has_all, sw_has_in, sw_has_not, sw_has_and, sw_has_or, sw_has_none, sw_has_some, sw_in_all, sw_in_has, sw_in_not, sw_in_and, sw_in_or, sw_in_none, sw_in_some, sw_not_all, sw_not_has, sw_not_in, sw_not_and, sw_not_or, sw_not_none, sw_not_some, sw_and_all, sw_and_has, sw_and_in, sw_and_not, sw_and_or, sw_and_none, sw_and_some, sw_or_all, sw_or_has, sw_or_in, sw_or_not, sw_or_and, sw_or_none, sw_or_some, sw_none_all, sw_none_has, sw_none_in, sw_none_not, sw_none_and, sw_none_or, sw_none_some, sw_some_all, sw_some_has, sw_some_in, sw_some_not, sw_some_and, sw_some_or, sw_some_none, beq_self_eq_true])
/-! ### lots of one row, drawn -/
def S_law_rows_right : S8 := fun ds P => ds = [] ∧ P (.bool true)
theorem law_law_rows_right : ∀ ds P, S_law_rows_right ds P → w_law_rows_right S_law_draw S_law_single_due (S_verdict N8) { nx := fun _ => P .none, rt := P } (.heap :: dats ds 8) := by
  rintro ds P ⟨rfl, p⟩
  unfold w_law_rows_right
  refine seq_any (fun ρ => ∃ c low : Int, ρ = [.heap, .dat (.int c), .dat (.int low), .un, .un, .un, .un, .un, .un] ∧ 1 ≤ c ∧ c ≤ 3 ∧ -4 ≤ low ∧ low ≤ 4) (fun N k => ?_) fun ρ hJ => ?_
  · walk_at "dl"
    refine ⟨3, rfl, by omega, by omega, fun a a0 a1 => ⟨a, rfl, 9, rfl, by omega, by omega, fun b b0 b1 => ⟨b, rfl, k _ ⟨_, _, rfl, by omega, by omega, by omega, by omega⟩⟩⟩⟩
  obtain ⟨c, low, rfl, c1, c3, l0, l1⟩ := hJ
  refine seq_any (fun ρ => ∃ many : Int, ρ = [.heap, .dat (.int c), .dat (.int low), .dat (.int many), .un, .un, .un, .un, .un] ∧ 1 ≤ many ∧ many ≤ c) (fun N k => ?_) fun ρ hJ => ?_
  · walk_at "dl"
    refine ⟨c, rfl, by omega, by omega, fun a a0 a1 => ⟨a, rfl, k _ ⟨_, rfl, by omega, by omega⟩⟩⟩
  obtain ⟨many, rfl, m1, m2⟩ := hJ
  refine seq_any (fun ρ => ∃ high : Int, ρ = [.heap, .dat (.int c), .dat (.int low), .dat (.int many), .dat (.int high), .un, .un, .un, .un] ∧ low ≤ high ∧ high < low + 4 ∧ (many = 1 → low = high)) (fun N k => ?_) fun ρ hJ => ?_
  · walk_at "dl"
    refine ⟨fun z => k _ ⟨_, rfl, by omega, by omega, fun _ => rfl⟩, fun z => ⟨4, rfl, by omega, by omega, fun a a0 a1 => ⟨a, rfl, k _ ⟨_, rfl, by omega, by omega, fun e => absurd e (beq_eq_false_iff_ne.mp z)⟩⟩⟩⟩
  obtain ⟨high, rfl, h0, h1, one⟩ := hJ
  obtain ⟨cn, rfl⟩ := Int.eq_ofNat_of_zero_le (show 0 ≤ c by omega)
  let rs : List Rw := [⟨"size", many, low, high⟩]
  have hrow : ∀ n r, rowOf rs n = some r → RowS cn r := fun n r e => by
    have := (rowOf_mem e).1
    rw [List.mem_singleton.mp this]
    exact ⟨⟨m1, m2, h0, one⟩, (show high - low < 4 by omega), (show -1000 ≤ low by omega), (show high ≤ 1000 by omega)⟩
  have hrok : Rok rs := fun r hr => by rw [List.mem_singleton.mp hr]; exact so_size
  refine seq_any (fun ρ => ∃ start : Int, ρ = [.heap, .dat (.int cn), .dat (.int low), .dat (.int many), .dat (.int high), .dat (encT cn rs), .dat (.int start), .un, .un]) (fun N k => ?_) fun ρ hJ => ?_
  · walk_at "dl"
    refine ⟨by rw [sizeLine_eq]; omega, by rw [sizeLine_eq]; omega, sz2, 6, rfl, by omega, by omega, fun a a0 a1 => ⟨a, rfl, k _ ⟨_, rfl⟩⟩⟩
  obtain ⟨start, rfl⟩ := hJ
  refine seq_any (fun ρ => True) (fun N k => ?_) fun ρ hJ => p
  have s4 : 4 ≤ sizeLine := by rw [sizeLine_eq]; omega
  refine ⟨_, rfl, _, rfl, rfl, 4, rfl, by omega, by omega, fun a a0 a1 => ⟨start, a, rfl, rfl, trivial, s4, sz2, sz2, _, rfl, _, rfl, s4, s4, ?_⟩⟩
  let fils : List Fil := [.rng "size" start (start + a), .has "size", .has "sizes", .rng "siz" low high]
  have ef : fils.map Fil.enc = [.tuple [.str "in", .str "size", .int start, .int (start + a)], .tuple [.str "has", .str "size"], .tuple [.str "has", .str "sizes"], .tuple [.str "in", .str "siz", .int low, .int high]] := by
    simp only [fils, List.map_cons, List.map_nil, Fil.enc]
  have good : ∀ f ∈ fils, (∃ n, nameA f = some n) ∧ f.wf ∧ f.dep = 0 := fun f hf => by
    simp only [fils, List.mem_cons, List.not_mem_nil, or_false] at hf
    rcases hf with e | e | e | e <;> subst e <;> simp only [Fil.wf, Fil.dep, nameA]
    · exact ⟨⟨_, rfl⟩, ⟨so_size, by omega⟩, trivial⟩
    · exact ⟨⟨_, rfl⟩, so_size, trivial⟩
    · exact ⟨⟨_, rfl⟩, so_sizes, trivial⟩
    · exact ⟨⟨_, rfl⟩, ⟨so_siz, h0⟩, trivial⟩
  refine ⟨fils.map Fil.enc, .inl (congrArg PyData.list ef.symm), for_inv fils Fil.enc (fun pre ρ => ∃ x7 x8, ρ = [.heap, .dat (.int cn), .dat (.int low), .dat (.int many), .dat (.int high), .dat (encT cn rs), .dat (.int start), x7, x8]) ⟨_, _, rfl⟩ (fun pre f post ρ' N er hJ k => ?_) fun ρ' hJ => k _ trivial⟩
  obtain ⟨x7, x8, rfl⟩ := hJ
  obtain ⟨⟨n, hn⟩, hw, hd⟩ := good f (by rw [er]; exact List.mem_append_right _ List.mem_cons_self)
  have c0 : ¬ (cn : Int) = 0 := by omega
  have sv := shaped_vd (vd cn rs f)
  have hrl : rs.length ≤ 8 := (show 1 ≤ 8 by decide)
  walk_at "dl"
  refine ⟨f, n, cn, rs, rfl, hn, hw, by omega, by omega, hrl, hrok, hrow n, f, cn, rs, rfl, hw, by rw [hd]; exact (show 0 < 16 by decide), hrok, shaped_vd _, sv, ?_⟩
  rw [verd_pos c0, eqv_str, beq_self_eq_true]
  refine ⟨fun z => (nomatch z), fun _ => ⟨sz2, .neg f, cn, rs, by simp only [Fil.enc], by simp only [Fil.wf]; exact hw, by simp only [Fil.dep, hd]; exact (show 1 < 16 by decide), hrok, ?_⟩⟩
  rw [verd_pos c0]
  refine ⟨_, rfl, ?_⟩
  have e2 : vd cn rs (.neg f) = (vd cn rs f).opp := by simp only [vd]
  rw [e2]
  exact dict_opp (P := fun y => SeqAt.shaped (.str (vd cn rs f).opp.s) = true ∧ SeqAt.shaped y = true ∧ ((!PyData.eqv (.str (vd cn rs f).opp.s) y) = true → P (.bool false)) ∧ ((!PyData.eqv (.str (vd cn rs f).opp.s) y) = false → N _)) ⟨shaped_vd _, shaped_vd _, by rw [eqv_str, beq_self_eq_true]; exact ⟨fun z => (nomatch z), fun _ => k _ ⟨_, _, rfl⟩⟩⟩
end D8
namespace D8
open PySem PySem.Spec PyProof.Rows L2
local macro_rules | `(tactic| walk_at "dl") => `(tactic| simp only [wSeq, wIfS, wRet, wAsg, wPar, wNext, wB, wOp, wUn, wNeg, wVar, wC, wIx, wEqD, wNeD, wInD, wNotInD, wI, wTup, wLst, wCons, wNil, wCB, wCall, wCallH, wCal2, wIfE, wAnd, wOr, wNot, wAndV, wOrV, wNotV, wChain, wIsN, wNotN, wgName, wgTup, wgCons, wgNil, wL, wYes, wSl, wPart, wNoPart, wCat, wCatT, wRep,
  wLen, wMin2, wMax2, wAll, wAny, wTupOf, wListOf, wInt1, wOwn, wApp, wFrz, wIxOwn, wDrop, dats, List.map_cons, List.map_nil, List.cons_append, List.nil_append, List.replicate, List.set_cons_zero, List.set_cons_succ, List.getElem?_cons_zero, List.getElem?_cons_succ, Option.some.injEq, Sl.dat.injEq, Sl.own.injEq, exists_eq_left', exists_eq_left, exists_eq_right', exists_eq_right,
  PyData.tuple.injEq, PyData.list.injEq, PyData.int.injEq, PyData.str.injEq, PyData.bool.injEq, List.cons.injEq, reduceCtorEq, false_or, or_false, false_and, and_false, and_true, true_and, exists_const, exists_false, eqv_str, eqv_int, eqv_bool, shaped_int, shaped_bool, and_assoc, exists_and_left, List.length_cons, List.length_nil, Nat.reduceAdd, Nat.zero_add, at0, at1, at2, at3, cut1, cut2, beq_self_eq_true, Bool.not_true, Bool.not_false, Bool.false_eq_true, false_implies, true_implies, forall_const, eq_self_iff_true, forall_eq, forall_eq', Bool.true_eq_false, sw_all_has, sw_all_in, sw_all_not, sw_all_and, sw_all_or, sw_all_none, sw_all_some, sw_has_all, sw_has_in, sw_has_not, sw_has_and, sw_has_or, sw_has_none, sw_has_some, sw_in_all, sw_in_has, sw_in_not, sw_in_and, sw_in_or, sw_in_none, sw_in_some, sw_not_all, sw_not_has, sw_not_in, sw_not_and, sw_not_or, sw_not_none, sw_not_some, sw_and_all, sw_and_has, sw_and_in, sw_and_not, sw_and_or, sw_and_none, sw_and_some, sw_or_all, sw_or_has, sw_or_in, sw_or_not, sw_or_and, sw_or_none, sw_or_some, sw_none_all, sw_none_has, sw_none_in, sw_none_not, sw_none_and, sw_none_or, sw_none_some, sw_some_all, sw_some_has, sw_some_in, sw_some_not, sw_some_and, sw_some_or, sw_some_none, shw_all, shw_has, shw_in, shw_not, shw_and, shw_or, shw_none, shw_some])
local macro_rules | `(tactic| walk_at "sw") => `(tactic| simp only [sw_all_has, sw_all_in, sw_all_not, sw_all_and, sw_all_or, sw_all_none, sw_all_some, sw_has_all, sw_has_in, sw_has_not, sw_has_and, sw_has_or, sw_has_none, sw_has_some, sw_in_all, sw_in_has, sw_in_not, sw_in_and, sw_in_or, sw_in_none, sw_in_some, sw_not_all, sw_not_has, sw_not_in, sw_not_and, sw_not_or, sw_not_none, sw_not_some, sw_and_all, sw_and_has, sw_and_in, sw_and_not, sw_and_or, sw_and_none, sw_and_some, sw_or_all, sw_or_has, sw_or_in, sw_or_not, sw_or_and, sw_or_none, sw_or_some, sw_none_all, sw_none_has, sw_none_in, sw_none_not, sw_none_and, sw_none_or, sw_none_some, sw_some_all, sw_some_has, sw_some_in, sw_some_not, sw_some_and, sw_some_or, sw_some_none, beq_self_eq_true])
/-! ### mixed things -/
theorem perm_map {α β : Type} (f : α → β) : ∀ {xs : List α} {ys : List β}, ys.Perm (xs.map f) → ∃ zs : List α, ys = zs.map f ∧ zs.Perm xs
  | [], ys, h => ⟨[], by rw [List.map_nil] at h; exact h.eq_nil, .nil⟩
  | x :: xs, ys, h => by
    rw [List.map_cons] at h
    have hm : f x ∈ ys := h.mem_iff.mpr List.mem_cons_self
    obtain ⟨a, b, rfl⟩ := List.append_of_mem hm
    obtain ⟨zs, e, hz⟩ := perm_map f (xs := xs) (ys := a ++ b) ((List.perm_middle.symm.trans h).cons_inv)
    obtain ⟨z1, z2, e1, e2, e3⟩ := List.map_eq_append_iff.mp e.symm
    refine ⟨z1 ++ x :: z2, by rw [List.map_append, List.map_cons, e2, e3], ?_⟩
    rw [e1] at hz
    exact List.perm_middle.trans (hz.cons x)
theorem canLay_tup {xs : List PyData} (h : ∀ x ∈ xs, Plain8 x) : (PyData.tuple xs).canLay0 = true := by simp only [PyData.canLay0]; exact canLay_all xs h
theorem depth_le {k : Nat} : ∀ xs : List PyData, (∀ x ∈ xs, x.depth ≤ k) → PyData.depthAll xs ≤ k
  | [], _ => by simp only [PyData.depthAll]; omega
  | x :: xs, h => by
    have h1 := h x List.mem_cons_self
    have h2 := depth_le xs fun y hy => h y (List.mem_cons_of_mem _ hy)
    simp only [PyData.depthAll]; omega
/-- plain, and of a small depth -/
structure Flat (k : Nat) (x : PyData) : Prop where
  lay : x.canLay0 = true
  dep : x.depth ≤ k
theorem Flat.plain {k : Nat} {x : PyData} (h : Flat k x) (hk : k ≤ 60) : Plain8 x := ⟨h.lay, Nat.le_trans h.dep hk⟩
theorem Flat.shaped {k : Nat} {x : PyData} (h : Flat k x) (hk : k ≤ 60) : SeqAt.shaped x = true := shaped_of h.lay (by have := h.dep; omega)
theorem Flat.up {k m : Nat} {x : PyData} (h : Flat k x) (hk : k ≤ m) : Flat m x := ⟨h.lay, Nat.le_trans h.dep hk⟩
theorem flat_int {k : Nat} (i : Int) : Flat k (.int i) := ⟨by simp only [PyData.canLay0], by simp only [PyData.depth]; omega⟩
theorem flat_str {k : Nat} {x : Str} (h : sok x) (hk : 1 ≤ k) : Flat k (.str x) := ⟨by simp only [PyData.canLay0]; exact h, by simp only [PyData.depth]; omega⟩
theorem lay_all : ∀ xs : List PyData, (∀ x ∈ xs, x.canLay0 = true) → PyData.canLayAll0 xs = true
  | [], _ => by simp only [PyData.canLayAll0]
  | x :: xs, h => by
    simp only [PyData.canLayAll0, Bool.and_eq_true]
    exact ⟨h x List.mem_cons_self, lay_all xs fun y hy => h y (List.mem_cons_of_mem _ hy)⟩
theorem flat_tup {k : Nat} {xs : List PyData} (h : ∀ x ∈ xs, Flat k x) : Flat (k + 1) (.tuple xs) := ⟨by simp only [PyData.canLay0]; exact lay_all xs fun x hx => (h x hx).lay, by have := depth_le xs fun x hx => (h x hx).dep; simp only [PyData.depth]; omega⟩
theorem flat_lst {k : Nat} {xs : List PyData} (h : ∀ x ∈ xs, Flat k x) : Flat (k + 1) (.list xs) := ⟨by simp only [PyData.canLay0]; exact lay_all xs fun x hx => (h x hx).lay, by have := depth_le xs fun x hx => (h x hx).dep; simp only [PyData.depth]; omega⟩
theorem flat_nil {k : Nat} : ∀ x ∈ ([] : List PyData), Flat k x := fun _ h => nomatch h
theorem flat_cons {k : Nat} {x : PyData} {xs : List PyData} (h : Flat k x) (g : ∀ y ∈ xs, Flat k y) : ∀ y ∈ x :: xs, Flat k y := fun y hy => by
  rcases List.mem_cons.mp hy with e | hy
  · rw [e]; exact h
  · exact g y hy
theorem flat_map {α : Type} {k : Nat} {f : α → PyData} {xs : List α} (h : ∀ x ∈ xs, Flat k (f x)) : ∀ y ∈ xs.map f, Flat k y := fun y hy => by
  obtain ⟨x, hx, e⟩ := List.mem_map.mp hy
  rw [← e]; exact h x hx
theorem flat_encP {p : Str × Int} (h : sok p.1) : Flat 2 (encP p) := flat_tup (k := 1) (flat_cons (flat_str h (by omega)) (flat_cons (flat_int _) flat_nil))
theorem flat_encL {ls : Lab} (h : Lok ls) : Flat 3 (encL ls) := flat_tup (flat_map fun p hp => flat_encP (h p hp))
theorem flat_encR {r : Rw} (h : sok r.n) : Flat 2 (encR r) := flat_tup (k := 1) (flat_cons (flat_str h (by omega)) (flat_cons (flat_int _) (flat_cons (flat_int _) (flat_cons (flat_int _) flat_nil))))
theorem flat_encT {c : Int} {rs : List Rw} (h : Rok rs) : Flat 4 (encT c rs) := flat_tup (flat_cons (flat_int _) (flat_cons (flat_tup (flat_map fun r hr => flat_encR (h r hr))) flat_nil))
theorem eqv_self {k : Nat} {x : PyData} (h : Flat k x) : PyData.eqv x x = true := PySem.SeqAt.eqv_refl x h.lay
/-! ### is a filter judged right on a lot -/
def S_law_filter_right : S8 := fun ds P => ∃ (f : Fil) (lss : List Lab), ds = [f.enc, .list (lss.map encL)] ∧ f.wf ∧ f.dep + 1 < N8 ∧ lss.length ≤ 60 ∧ (∀ ls ∈ lss, Sm ls) ∧ P (.bool true)
theorem vals_bound {n : Str} {lss : List Lab} (h : ∀ ls ∈ lss, Sm ls) {v : Int} (hv : v ∈ vals n lss) : -100 ≤ v ∧ v ≤ 100 := by
  obtain ⟨ls, hl, e⟩ := List.mem_filterMap.mp hv
  unfold look at e
  obtain ⟨p, hp, e⟩ := Option.map_eq_some_iff.mp e
  have := List.mem_of_find?_eq_some hp
  rw [← e]
  exact ⟨(h ls hl).lo p this, (h ls hl).hi p this⟩
theorem repr_vd (v : Vd) : (reprText v.s).length ≤ sizeLine ∧ sok (reprText v.s) := by
  have : ∀ w ∈ [Vd.none, Vd.all, Vd.some], (reprText w.s).length ≤ 100 ∧ PyData.strOk (reprText w.s) = true := by decide +kernel
  have h := this v (by cases v <;> simp)
  exact ⟨by rw [sizeLine_eq]; have := h.1; omega, h.2⟩
theorem exs_l8 {rs : List Rw} (h : R8 rs) (c : Nat) : ∀ ls ∈ exs c rs, L8 ls := fun ls hl => by
  rw [exs_eq] at hl
  obtain ⟨i, _, e⟩ := List.mem_map.mp hl
  subst e
  unfold exAt
  refine ⟨?_, fun p hp => ?_⟩
  · rw [List.map_map]
    show (((rs.filter fun r => decide ((i : Int) < r.k))).map fun r => r.n).Nodup
    exact h.nd.sublist (List.filter_sublist.map _)
  · obtain ⟨r, hr, e⟩ := List.mem_map.mp hp
    rw [← e]
    exact h.u8 r (List.mem_filter.mp hr).1
theorem law_law_filter_right : ∀ ds P, S_law_filter_right ds P → w_law_filter_right S_law_summary S_summary (S_verdict N8) (S_law_due N8) S_law_told_right S_example_labels S_law_draw S_law_mixed S_joined_summary { nx := fun _ => P .none, rt := P } (.heap :: dats ds 11) := by
  rintro ds P ⟨f, lss, rfl, hw, hd, hl, hs, p⟩
  have h8 : ∀ ls ∈ lss, L8 ls := fun ls h => (hs ls h).toL8
  unfold w_law_filter_right
  refine seq_any (fun ρ => ∃ rs, ρ = [.heap, .dat f.enc, .dat (.list (lss.map encL)), .dat (encT lss.length rs), .un, .un, .un, .un, .un, .un, .un, .un, .un, .un] ∧ R8 rs ∧ Tells rs lss) (fun N k => ?_) fun ρ hJ => ?_
  · walk_at "dl"
    exact ⟨lss, rfl, hl, h8, fun rs r8 t => k _ ⟨rs, rfl, r8, t⟩⟩
  obtain ⟨rs, rfl, r8, t⟩ := hJ
  have rl := r8.len
  refine seq_step [.heap, .dat f.enc, .dat (.list (lss.map encL)), .dat (encT lss.length rs), .un, .un, .un, .un, .un, .un, .un, .un, .un, .un] (fun N k => ?_) ?_
  · walk_at "dl"
    have el : lss.map encL = lss.map encL := rfl
    refine ⟨rfl, _, rfl, _, .inl rfl, lss.length, by rw [List.length_map], by omega, by omega, ?_⟩
    rw [range_enc]
    refine ⟨by rw [List.length_map, List.length_range]; omega, lc_all (List.range lss.length) (fun i => PyData.int (i : Nat)) (fun (i : Nat) => itemD ((i : Int), lss.getD i [])) (fun i Y N hi k => ?_) ?_⟩
    · have hi := List.mem_range.mp hi
      have eg : (lss.map encL)[i]? = some (encL (lss.getD i [])) := by
        rw [List.getElem?_map, List.getD_eq_getElem?_getD, List.getElem?_eq_getElem hi] <;> rfl
      walk_at "dl"
      exact ⟨rfl, Nat.zero_le _, encL (lss.getD i []), atI_nat eg, by rw [sizeLine_eq]; omega, k⟩
    · have e1 : (List.range lss.length).map (fun (i : Nat) => itemD ((i : Int), lss.getD i [])) = ((List.range lss.length).map fun (i : Nat) => ((i : Int), lss.getD i [])).map itemD := by rw [List.map_map] <;> rfl
      have e2 : ((List.range lss.length).map fun (i : Nat) => ((i : Int), lss.getD i [])).map (·.2) = lss := by
        rw [List.map_map]
        refine List.ext_getElem (by rw [List.length_map, List.length_range]) fun i h1 h2 => ?_
        rw [List.getElem_map, List.getElem_range]
        show lss.getD i [] = _
        rw [List.getD_eq_getElem?_getD, List.getElem?_eq_getElem h2] <;> rfl
      rw [e1]
      refine ⟨_, rfl, fun it hit => ?_, fun qs q8 tq => ?_⟩
      · refine h8 it.2 ?_
        rw [← e2]
        exact List.mem_map.mpr ⟨it, hit, rfl⟩
      · rw [e2] at tq
        rw [tells_uniq q8 r8 tq t, List.length_map, List.length_range, eqv_self (flat_encT r8.rok)]
        exact ⟨(flat_encT r8.rok).shaped (by omega), (flat_encT r8.rok).shaped (by omega), fun z => (nomatch z), fun _ => k⟩
  refine seq_any (fun ρ => ∃ b, ρ = [.heap, .dat f.enc, .dat (.list (lss.map encL)), .dat (encT lss.length rs), .dat (.bool b), .un, .un, .un, .un, .un, .un, .un, .un, .un] ∧ (b = true → lss.length ≤ 3 ∧ ∀ r ∈ rs, r.hi - r.lo < 4)) (fun N k => ?_) fun ρ hJ => ?_
  · simp only [encT] at k ⊢
    walk_at "dl"
    refine ⟨fun z => ⟨rfl, _, rfl, _, _, _, .inr rfl, rfl, at1 _ _ _, _, .inr rfl, by rw [List.length_map]; omega, lc_all rs encR (fun r => .bool (decide (r.hi - r.lo < 4))) (fun r Y N hr k => ?_) ⟨rs.map fun r => decide (r.hi - r.lo < 4), by rw [List.map_map] <;> rfl, k _ ⟨_, rfl, fun y => ⟨by have := of_decide_eq_true z; omega, fun r hr => ?_⟩⟩⟩⟩, fun _ => k _ ⟨false, rfl, fun z => (nomatch z)⟩⟩
    · simp only [encR]
      walk_at "dl"
      exact ⟨rfl, k⟩
    · have := List.all_eq_true.mp y _ (List.mem_map.mpr ⟨r, hr, rfl⟩)
      exact of_decide_eq_true this
  obtain ⟨b, rfl, hb⟩ := hJ
  refine seq_step [.heap, .dat f.enc, .dat (.list (lss.map encL)), .dat (encT lss.length rs), .dat (.bool b), .un, .un, .un, .un, .un, .un, .un, .un, .un] (fun N k => ?_) ?_
  · walk_at "dl"
    refine ⟨fun z => ?_, fun _ => k⟩
    obtain ⟨c3, few⟩ := hb z
    refine ⟨f, lss.length, rs, rfl, hw, by omega, r8.rok, .inr ⟨_, rfl, (repr_vd _).1, f, lss.length, rs, rfl, hw, by omega, c3, rl, r8.rok, fun n r e => ?_, .inr ⟨_, rfl, (repr_vd _).1, shaped_str (repr_vd _).2, shaped_str (repr_vd _).2, ?_⟩⟩⟩
    · have a := tells_some t e
      exact ⟨tells_rowOk t e, few r (rowOf_mem e).1, by have := (vals_bound hs a.lo.m).1; omega, by have := (vals_bound hs a.hi.m).2; omega⟩
    · rw [eqv_str, beq_self_eq_true]
      exact ⟨fun z => (nomatch z), fun _ => k⟩
  refine seq_step [.heap, .dat f.enc, .dat (.list (lss.map encL)), .dat (encT lss.length rs), .dat (.bool b), .un, .un, .un, .un, .un, .un, .un, .un, .un] (fun N k => ?_) ?_
  · walk_at "dl"
    have te := exs_tells (c := lss.length) r8.nd fun n r e => tells_rowOk t e
    refine ⟨f, rs, lss, rfl, hw, hd, r8.rok, hl, h8, t, true, rfl, fun z => (nomatch z), fun _ => ⟨lss.length, rs, rfl, by omega, rl, _, rfl, f, rs, exs lss.length rs, by rw [exs_len], hw, hd, r8.rok, by rw [exs_len]; exact hl, exs_l8 r8 _, te, true, rfl, fun z => (nomatch z), fun _ => k⟩⟩
  refine seq_any (fun ρ => True) (fun N k => ?_) fun ρ hJ => p
  refine ⟨2, rfl, by omega, by omega, for_inv (List.range 2) (fun i => PyData.int (i : Nat)) (fun pre ρ => ∃ x5 x6 x7 x8 x9 x10 x11, ρ = [.heap, .dat f.enc, .dat (.list (lss.map encL)), .dat (encT lss.length rs), .dat (.bool b), x5, x6, x7, x8, x9, x10, x11, .un, .un]) ⟨_, _, _, _, _, _, _, rfl⟩ (fun pre i post ρ' N er hJ k => ?_) fun ρ' hJ => k _ trivial⟩
  obtain ⟨x5, x6, x7, x8, x9, x10, x11, rfl⟩ := hJ
  refine seq_any (fun ρ => ∃ c : Nat, ρ = [.heap, .dat f.enc, .dat (.list (lss.map encL)), .dat (encT lss.length rs), .dat (.bool b), .dat (.int i), .dat (.int c), x7, x8, x9, x10, x11, .un, .un]) (fun N k => ?_) fun ρ hJ => ?_
  · walk_at "dl"
    refine ⟨lss.length + 1, by rw [List.length_map], by omega, by omega, fun c c0 c1 => ?_⟩
    obtain ⟨cn, rfl⟩ := Int.eq_ofNat_of_zero_le c0
    exact k _ ⟨cn, rfl⟩
  obtain ⟨c, rfl⟩ := hJ
  refine seq_any (fun ρ => ∃ mss : List Lab, ρ = [.heap, .dat f.enc, .dat (.list (lss.map encL)), .dat (encT lss.length rs), .dat (.bool b), .dat (.int i), .dat (.int c), .dat (.list (mss.map encL)), x8, x9, x10, x11, .un, .un] ∧ mss.Perm lss) (fun N k => ?_) fun ρ hJ => ?_
  · walk_at "dl"
    refine ⟨_, rfl, by rw [List.length_map]; omega, fun x hx => ?_, fun ys hy => ?_⟩
    · obtain ⟨ls, hls, e⟩ := List.mem_map.mp hx
      rw [← e]; exact (flat_encL (h8 ls hls).lok).plain (by omega)
    · obtain ⟨mss, rfl, hm⟩ := perm_map encL hy
      exact k _ ⟨mss, rfl, hm⟩
  obtain ⟨mss, rfl, hp⟩ := hJ
  have ml := hp.length_eq
  have m8 : ∀ ls ∈ mss, L8 ls := fun ls h => h8 ls (hp.mem_iff.mp h)
  refine seq_any (fun ρ => ∃ r1 r2, ρ = [.heap, .dat f.enc, .dat (.list (lss.map encL)), .dat (encT lss.length rs), .dat (.bool b), .dat (.int i), .dat (.int c), .dat (.list (mss.map encL)), .dat (encT (mss.take c).length r1), .dat (encT (mss.drop c).length r2), x10, x11, .un, .un] ∧ R8 r1 ∧ R8 r2 ∧ Tells r1 (mss.take c) ∧ Tells r2 (mss.drop c)) (fun N k => ?_) fun ρ hJ => ?_
  · walk_at "dl"
    rw [cut_to, cut_from, ← List.map_take, ← List.map_drop]
    exact ⟨mss.take c, rfl, by rw [List.length_take]; omega, fun ls h => m8 ls (List.mem_of_mem_take h), fun r1 h1 t1 => ⟨mss.drop c, rfl, by rw [List.length_drop]; omega, fun ls h => m8 ls (List.mem_of_mem_drop h), fun r2 h2 t2 => k _ ⟨r1, r2, rfl, h1, h2, t1, t2⟩⟩⟩
  obtain ⟨r1, r2, rfl, h1, h2, t1, t2⟩ := hJ
  refine seq_any (fun ρ => ∃ r3, ρ = [.heap, .dat f.enc, .dat (.list (lss.map encL)), .dat (encT lss.length rs), .dat (.bool b), .dat (.int i), .dat (.int c), .dat (.list (mss.map encL)), .dat (encT (mss.take c).length r1), .dat (encT (mss.drop c).length r2), .dat (.str (verd mss.length r3 f).s), x11, .un, .un] ∧ R8 r3 ∧ Tells r3 mss) (fun N k => ?_) fun ρ hJ => ?_
  · walk_at "dl"
    refine ⟨_, r1, _, r2, rfl, h1.ms, h2.ms, fun r3 h3 e3 => ?_⟩
    have t3 := joinO_tells t1 t2 e3
    rw [List.take_append_drop] at t3
    have el : ((mss.take c).length : Int) + ((mss.drop c).length : Int) = (mss.length : Int) := by
      have := congrArg List.length (List.take_append_drop c mss)
      rw [List.length_append] at this
      omega
    rw [el]
    exact ⟨f, _, r3, rfl, hw, by omega, h3.rok, k _ ⟨r3, rfl, h3, t3⟩⟩
  obtain ⟨r3, rfl, h3, t3⟩ := hJ
  generalize hv : verd mss.length r3 f = v at *
  have sv := shaped_vd v
  refine ⟨_, rfl, _, rfl, sz2, _, .inl rfl, ?_⟩
  refine for_inv (ρ := _) [(mss.take c, r1), (mss.drop c, r2)] (fun q : List Lab × List Rw => encT q.1.length q.2) (fun pre ρ => ∃ x11, ρ = [.heap, .dat f.enc, .dat (.list (lss.map encL)), .dat (encT lss.length rs), .dat (.bool b), .dat (.int i), .dat (.int c), .dat (.list (mss.map encL)), .dat (encT (mss.take c).length r1), .dat (encT (mss.drop c).length r2), .dat (.str v.s), x11, .un, .un]) ⟨_, rfl⟩ (fun pre q post ρ' N er hJ k => ?_) fun ρ' hJ => ?_
  · obtain ⟨x11, rfl⟩ := hJ
    have hq : q ∈ [(mss.take c, r1), (mss.drop c, r2)] := by rw [er]; exact List.mem_append_right _ List.mem_cons_self
    have hq2 : q.1.Sublist mss ∧ Tells q.2 q.1 ∧ R8 q.2 := by
      rcases List.mem_cons.mp hq with e | hq
      · rw [e]; exact ⟨List.take_sublist _ _, t1, h1⟩
      · rw [List.mem_singleton.mp hq]; exact ⟨List.drop_sublist _ _, t2, h2⟩
    obtain ⟨sub, tq, rq⟩ := hq2
    have kk := k _ ⟨.dat (encT q.1.length q.2), rfl⟩
    generalize hT : encT q.1.length q.2 = T at kk ⊢
    have eT : T = .tuple [.int q.1.length, .tuple (q.2.map encR)] := hT.symm
    refine ⟨_, rfl, _, _, _, .inr eT, rfl, at0 _ _, _, _, rfl, rfl, trivial, _, rfl, fun z => ⟨_, rfl, sv, shaped_vd .some, _, rfl, fun y => ?_, fun _ => ⟨fun z => (nomatch z), fun _ => kk⟩⟩, fun _ => ⟨fun z => (nomatch z), fun _ => kk⟩⟩
    have z := of_decide_eq_true z
    have ne : q.1 ≠ [] := fun e => by rw [e] at z; exact absurd z (by decide)
    have e1 : PyData.eqv (.str v.s) (.str "some") = decide (v = .some) := eqv_vd v .some
    have y : (!PyData.eqv (.str v.s) (.str "some")) = true := y
    rw [e1, Bool.not_eq_true', decide_eq_false_iff_not] at y
    have part := verd_part t3 tq sub ne (f := f) (by rw [hv]; exact y)
    rw [hv] at part
    refine ⟨_, rfl, _, rfl, f, q.1.length, q.2, by rw [← hT], hw, by omega, rq.rok, _, rfl, shaped_vd _, sv, ?_⟩
    rw [part, eqv_str, beq_self_eq_true]
    exact ⟨_, rfl, fun z => (nomatch z), fun _ => kk⟩
  · obtain ⟨x11, rfl⟩ := hJ
    exact k _ ⟨_, _, _, _, _, _, _, rfl⟩
end D8
namespace D8
open PySem PySem.Spec PyProof.Rows L2
local macro_rules | `(tactic| walk_at "dl") => `(tactic| simp only [wSeq, wIfS, wRet, wAsg, wPar, wNext, wB, wOp, wUn, wNeg, wVar, wC, wIx, wEqD, wNeD, wInD, wNotInD, wI, wTup, wLst, wCons, wNil, wCB, wCall, wCallH, wCal2, wIfE, wAnd, wOr, wNot, wAndV, wOrV, wNotV, wChain, wIsN, wNotN, wgName, wgTup, wgCons, wgNil, wL, wYes, wSl, wPart, wNoPart, wCat, wCatT, wRep,
  wLen, wMin2, wMax2, wAll, wAny, wTupOf, wListOf, wInt1, wOwn, wApp, wFrz, wIxOwn, wDrop, dats, List.map_cons, List.map_nil, List.cons_append, List.nil_append, List.replicate, List.set_cons_zero, List.set_cons_succ, List.getElem?_cons_zero, List.getElem?_cons_succ, Option.some.injEq, Sl.dat.injEq, Sl.own.injEq, exists_eq_left', exists_eq_left, exists_eq_right', exists_eq_right,
  PyData.tuple.injEq, PyData.list.injEq, PyData.int.injEq, PyData.str.injEq, PyData.bool.injEq, List.cons.injEq, reduceCtorEq, false_or, or_false, false_and, and_false, and_true, true_and, exists_const, exists_false, eqv_str, eqv_int, eqv_bool, shaped_int, shaped_bool, and_assoc, exists_and_left, List.length_cons, List.length_nil, Nat.reduceAdd, Nat.zero_add, at0, at1, at2, at3, cut1, cut2, beq_self_eq_true, Bool.not_true, Bool.not_false, Bool.false_eq_true, false_implies, true_implies, forall_const, eq_self_iff_true, forall_eq, forall_eq', Bool.true_eq_false, sw_all_has, sw_all_in, sw_all_not, sw_all_and, sw_all_or, sw_all_none, sw_all_some, sw_has_all, sw_has_in, sw_has_not, sw_has_and, sw_has_or, sw_has_none, sw_has_some, sw_in_all, sw_in_has, sw_in_not, sw_in_and, sw_in_or, sw_in_none, sw_in_some, sw_not_all, sw_not_has, sw_not_in, sw_not_and, sw_not_or, sw_not_none, sw_not_some, sw_and_all, sw_and_has, sw_and_in, sw_and_not, sw_and_or, sw_and_none, sw_and_some, sw_or_all, sw_or_has, sw_or_in, sw_or_not, sw_or_and, sw_or_none, sw_or_some, sw_none_all, sw_none_has, sw_none_in, sw_none_not, sw_none_and, sw_none_or, sw_none_some, sw_some_all, sw_some_has, sw_some_in, sw_some_not, sw_some_and, sw_some_or, sw_some_none, shw_all, shw_has, shw_in, shw_not, shw_and, shw_or, shw_none, shw_some])
local macro_rules | `(tactic| walk_at "sw") => `(tactic| simp only [sw_all_has, sw_all_in, sw_all_not, sw_all_and, sw_all_or, sw_all_none, sw_all_some, sw_has_all, sw_has_in, sw_has_not, sw_has_and, sw_has_or, sw_has_none, sw_has_some, sw_in_all, sw_in_has, sw_in_not, sw_in_and, sw_in_or, sw_in_none, sw_in_some, sw_not_all, sw_not_has, sw_not_in, sw_not_and, sw_not_or, sw_not_none, sw_not_some, sw_and_all, sw_and_has, sw_and_in, sw_and_not, sw_and_or, sw_and_none, sw_and_some, sw_or_all, sw_or_has, sw_or_in, sw_or_not, sw_or_and, sw_or_none, sw_or_some, sw_none_all, sw_none_has, sw_none_in, sw_none_not, sw_none_and, sw_none_or, sw_none_some, sw_some_all, sw_some_has, sw_some_in, sw_some_not, sw_some_and, sw_some_or, sw_some_none, beq_self_eq_true])
/-! ### what may be shown in full -/
structure Rep (k w : Nat) (d : PyData) : Prop where
  lay : d.canLay0 = true
  dep : d.depth ≤ k
  wt : d.weight ≤ w
  sh : d.intsShort 13 = true
  sw : d.showable = true
  nod : d.hasDict = false
theorem Rep.up {k w k' w' : Nat} {d : PyData} (h : Rep k w d) (hk : k ≤ k') (hw : w ≤ w') : Rep k' w' d := ⟨h.lay, Nat.le_trans h.dep hk, Nat.le_trans h.wt hw, h.sh, h.sw, h.nod⟩
theorem rep_int {i : Int} (h1 : -1000 ≤ i) (h2 : i ≤ 1000) : Rep 0 10 (.int i) := by
  have hn : i.natAbs < 2 ^ 10 := by have : (2 : Nat) ^ 10 = 1024 := by decide
                                    omega
  refine ⟨by simp only [PyData.canLay0], by simp only [PyData.depth]; omega, ?_, ?_, ?_, by simp only [PyData.hasDict]⟩
  · simp only [PyData.weight]
    by_cases z : i.natAbs = 0
    · have : (i == 0) = true := by rw [beq_iff_eq]; omega
      rw [if_pos this]; omega
    · have : ¬ (i == 0) = true := by rw [beq_iff_eq]; omega
      rw [if_neg this]
      have := (Nat.log2_lt z).mpr hn
      omega
  · simp only [PyData.intsShort, decide_eq_true_eq]
    refine PyData.shown_int_le ?_
    have : (10 : Nat) ^ 12 = 1000000000000 := by decide
    omega
  · simp only [PyData.showable]
    by_cases z : i.natAbs = 0
    · rw [z]; decide
    · have := (Nat.log2_lt z).mpr hn
      simp; omega
structure Sh (x : Str) : Prop where
  ok : sok x
  len : x.cps.size ≤ 10
theorem rep_str {x : Str} (h : Sh x) : Rep 1 10 (.str x) :=
  ⟨by simp only [PyData.canLay0]; exact h.ok, by simp only [PyData.depth]; omega, by simp only [PyData.weight]; exact h.len, by simp only [PyData.intsShort], by simp only [PyData.showable], by simp only [PyData.hasDict]⟩
theorem rep_all {k w : Nat} : ∀ {xs : List PyData}, (∀ x ∈ xs, Rep k w x) → PyData.canLayAll0 xs = true ∧ PyData.depthAll xs ≤ k ∧ PyData.weightAll xs ≤ xs.length * (w + 1) ∧ PyData.intsShortAll 13 xs = true ∧ PyData.showableAll xs = true ∧ PyData.hasDictAll xs = false
  | [], _ => ⟨by simp only [PyData.canLayAll0], by simp only [PyData.depthAll]; omega, by simp only [PyData.weightAll]; omega, by simp only [PyData.intsShortAll], by simp only [PyData.showableAll], by simp only [PyData.hasDictAll]⟩
  | x :: xs, h => by
    obtain ⟨a1, a2, a3, a4, a5, a6⟩ := rep_all fun y hy => h y (List.mem_cons_of_mem _ hy)
    have hx := h x List.mem_cons_self
    refine ⟨by simp only [PyData.canLayAll0, hx.lay, a1, Bool.and_self], by simp only [PyData.depthAll]; have := hx.dep; omega, ?_, by simp only [PyData.intsShortAll, hx.sh, a4, Bool.and_self], by simp only [PyData.showableAll, hx.sw, a5, Bool.and_self], by simp only [PyData.hasDictAll, hx.nod, a6, Bool.or_self]⟩
    simp only [PyData.weightAll]
    rw [List.length_cons, Nat.succ_mul]
    have := hx.wt
    omega
theorem rep_tup {k w m : Nat} {xs : List PyData} (h : ∀ x ∈ xs, Rep k w x) (hl : xs.length ≤ m) : Rep (k + 1) (m * (w + 1)) (.tuple xs) := by
  obtain ⟨a1, a2, a3, a4, a5, a6⟩ := rep_all h
  have := Nat.mul_le_mul_right (w + 1) hl
  exact ⟨by simp only [PyData.canLay0]; exact a1, by simp only [PyData.depth]; omega, by simp only [PyData.weight]; omega, by simp only [PyData.intsShort]; exact a4, by simp only [PyData.showable]; exact a5, by simp only [PyData.hasDict]; exact a6⟩
theorem rep_lst {k w m : Nat} {xs : List PyData} (h : ∀ x ∈ xs, Rep k w x) (hl : xs.length ≤ m) : Rep (k + 1) (m * (w + 1)) (.list xs) := by
  obtain ⟨a1, a2, a3, a4, a5, a6⟩ := rep_all h
  have := Nat.mul_le_mul_right (w + 1) hl
  exact ⟨by simp only [PyData.canLay0]; exact a1, by simp only [PyData.depth]; omega, by simp only [PyData.weight]; omega, by simp only [PyData.intsShort]; exact a4, by simp only [PyData.showable]; exact a5, by simp only [PyData.hasDict]; exact a6⟩
theorem all_nil {k w : Nat} : ∀ x ∈ ([] : List PyData), Rep k w x := fun _ h => nomatch h
theorem all_cons {k w : Nat} {x : PyData} {xs : List PyData} (h : Rep k w x) (g : ∀ y ∈ xs, Rep k w y) : ∀ y ∈ x :: xs, Rep k w y := fun y hy => by
  rcases List.mem_cons.mp hy with e | hy
  · rw [e]; exact h
  · exact g y hy
theorem all_map {α : Type} {k w : Nat} {f : α → PyData} {xs : List α} (h : ∀ x ∈ xs, Rep k w (f x)) : ∀ y ∈ xs.map f, Rep k w y := fun y hy => by
  obtain ⟨x, hx, e⟩ := List.mem_map.mp hy
  rw [← e]; exact h x hx
theorem sh_word : ∀ w ∈ [("all" : Str), "has", "in", "not", "and", "or"], Sh w := by
  have h : ∀ w ∈ [("all" : Str), "has", "in", "not", "and", "or"], PyData.strOk w = true ∧ w.cps.size ≤ 10 := by decide +kernel
  exact fun w hw => ⟨(h w hw).1, (h w hw).2⟩
theorem sh_name {n : Str} (h : n ∈ U8 ∨ n = "x") : Sh n := by
  have h : ∀ w ∈ U8 ++ [("x" : Str)], PyData.strOk w = true ∧ w.cps.size ≤ 10 := by decide +kernel
  have hn : n ∈ U8 ++ [("x" : Str)] := by
    rename_i g
    rcases g with g | g
    · exact List.mem_append_left _ g
    · exact List.mem_append_right _ (by rw [g]; exact List.mem_cons_self)
  exact ⟨(h n hn).1, (h n hn).2⟩
def wtF (d : Nat) : Nat := 60 * 6 ^ d
theorem wtF_succ (d : Nat) : wtF (d + 1) = 6 * wtF d := by unfold wtF; rw [Nat.pow_succ]; omega
theorem wtF_pos (d : Nat) : 60 ≤ wtF d := by
  unfold wtF
  have := Nat.one_le_two_pow (n := 0)
  have h : 1 ≤ 6 ^ d := Nat.one_le_pow _ _ (by omega)
  omega
theorem gn_rep {ns : List Str} (hs : ∀ n ∈ ns, Sh n) {d : Nat} {f : Fil} (h : Gn ns d f) : Rep (d + 2) (wtF d) f.enc := by
  induction h with
  | all d =>
    simp only [Fil.enc]
    exact (rep_tup (m := 1) (all_cons (rep_str (sh_word _ (by simp))) all_nil) (Nat.le_refl _)).up (by omega) (by have := wtF_pos d; omega)
  | has d h =>
    simp only [Fil.enc]
    exact (rep_tup (m := 2) (all_cons (rep_str (sh_word _ (by simp))) (all_cons (rep_str (hs _ h)) all_nil)) (Nat.le_refl _)).up (by omega) (by have := wtF_pos d; omega)
  | rng d h h1 h2 h3 =>
    simp only [Fil.enc]
    exact (rep_tup (m := 4) (all_cons (rep_str (sh_word _ (by simp))) (all_cons (rep_str (hs _ h)) (all_cons ((rep_int (by omega) (by omega)).up (by omega) (by omega)) (all_cons ((rep_int (by omega) (by omega)).up (by omega) (by omega)) all_nil)))) (Nat.le_refl _)).up (by omega) (by have := wtF_pos d; omega)
  | @neg d f h ih =>
    simp only [Fil.enc]
    have p := wtF_pos d
    exact (rep_tup (m := 2) (all_cons ((rep_str (sh_word _ (by simp))).up (by omega) (by omega)) (all_cons ih all_nil)) (Nat.le_refl _)).up (by omega) (by rw [wtF_succ]; omega)
  | @con d fs hl h ih =>
    simp only [Fil.enc]
    rw [encs_map]
    have p := wtF_pos d
    exact (rep_tup (m := 5) (all_cons ((rep_str (sh_word _ (by simp))).up (by omega) (by omega)) (all_map ih)) (by rw [List.length_cons, List.length_map]; omega)).up (by omega) (by rw [wtF_succ]; omega)
  | @dis d fs hl h ih =>
    simp only [Fil.enc]
    rw [encs_map]
    have p := wtF_pos d
    exact (rep_tup (m := 5) (all_cons ((rep_str (sh_word _ (by simp))).up (by omega) (by omega)) (all_map ih)) (by rw [List.length_cons, List.length_map]; omega)).up (by omega) (by rw [wtF_succ]; omega)
theorem lab_rep {ls : Lab} (h : Sm ls) : Rep 3 400 (encL ls) := by
  have hp : ∀ p ∈ ls, Rep 2 22 (encP p) := fun p hp => (rep_tup (m := 2) (all_cons (rep_str (sh_name (.inl (h.u8 p hp)))) (all_cons ((rep_int (by have := h.lo p hp; omega) (by have := h.hi p hp; omega)).up (by omega) (by omega)) all_nil)) (Nat.le_refl _)).up (by omega) (by omega)
  exact (rep_tup (m := 8) (all_map hp) (by rw [List.length_map]; exact h.toL8.len)).up (by omega) (by omega)
theorem shown_ok {ns : List Str} (hs : ∀ n ∈ ns, Sh n) {f : Fil} (h : Gn ns 4 f) {lss : List Lab} (hl : lss.length ≤ 60) (h8 : ∀ ls ∈ lss, Sm ls) (Q : PyData → Prop) (q : Q (.str (PyData.tuple [f.enc, .list (lss.map encL)]).shown)) : wRepr8 [.tuple [f.enc, .list (lss.map encL)]] Q := by
  have a := gn_rep hs h
  have e : wtF 4 = 77760 := by unfold wtF; decide
  rw [e] at a
  have b := rep_lst (m := 60) (all_map fun ls hls => lab_rep (h8 ls hls)) (xs := lss.map encL) (by rw [List.length_map]; exact hl)
  have c := rep_tup (m := 2) (all_cons a (all_cons (b.up (k' := 6) (w' := 77760) (by omega) (by omega)) all_nil)) (Nat.le_refl _)
  have ln : (PyData.tuple [f.enc, .list (lss.map encL)]).shown.length ≤ sizeLine := PyData.shown_fits_of_layable0 (B := 13) (by omega) (by omega) (by
    show (_ && _ && _) = true
    rw [c.lay, decide_eq_true (show _ ≤ 64 from Nat.le_trans c.dep (by omega)), decide_eq_true (show _ ≤ 2 ^ 20 from Nat.le_trans c.wt (by decide))] <;> rfl) c.sh
  exact ⟨_, rfl, c.sw, c.nod, Nat.le_trans c.dep (by omega), ln, q⟩
end D8
namespace D8
open PySem PySem.Spec PyProof.Rows L2
abbrev s_law : Stmt := topS 35
abbrev N_law : List Str := ["_law_script", "_law_heap_here", "_law_turn", "_law_names_here", "_law_labels_here", "_law_again", "_law_sieve_here", "_law_stands", "_law_far", "_law_told", "_law_at", "_law_name"]
theorem sc_law : FnScope N_law ["_law_script"] (defScope s_law) :=
  ⟨rfl, rfl, rfl, by decide +kernel, rfl, by decide +kernel, by decide +kernel⟩
def oSc_law : Scope := match s_law with
  | .FunctionDef _ _ b _ _ _ sc _ _ _ => (match (b[1]? : Option Stmt) with
    | some (Stmt.For _ _ b2 _ _) => (match (b2[2]? : Option Stmt) with
      | some (Stmt.If _ b3 _ _) => (match (b3[0]? : Option Stmt) with
        | some (Stmt.Assign _ (Expr.ListComp _ _ sc2 _) _) => sc2
        | _ => sc)
      | _ => sc)
    | _ => sc)
  | _ => defScope s_law
def th_law (K : PySem.W.Frag) : TA := (tCons (tOp (rI0 fun i j => .int (i + j)) (tC (.int 1)) (tCB rInt8 (tCons (tOp (rI0 fun i j => .bl (decide (j < i))) (tCB (rLen8 K) (tCons (tVar 0) tNil)) (tC (.int 1))) tNil))) tNil)
def tr_law (K : PySem.W.Frag) (th : TA) (S_law_names S_law_draw S_law_pick S_law_labels S_law_sieve S_law_filter_right S_law_rows_right S_verdict S_may_pass S_must_pass : S8) : TS :=
  (tSeq (tFor (iRng1 th) (gName 2) (tSeq (tAsg (tCall (spH S_law_names) [] E0 (tCons (tVar 1) (tCons (tOp (rI0 fun i j => .int (i + j)) (tC (.int 1)) (tCall (spH S_law_draw) [] E0 (tCons (tVar 1) (tCons (tC (.int 4)) tNil)))) tNil))) (gName 3))
  (tSeq (tAsg (tLc (iRng1 (tCons (tCall (spH S_law_pick) [] E0 (tCons (tVar 1) (tCons (tLst (tCons (tC (.int 0)) (tCons (tC (.int 1)) (tCons (tC (.int 2)) (tCons (tC (.int 2)) (tCons (tC (.int 3)) (tCons (tC (.int 3)) (tCons (tC (.int 6)) tNil)))))))) tNil))) tNil)) (gName 10) tYes (tCall (spH S_law_labels) [] E0 (tCons (tVar 1) (tCons (tVar 3) (tCons (tCall (spH S_law_pick) [] E0 (tCons (tVar 1) (tCons (tLst (tCons (tC (.int 2)) (tCons (tC (.int 4)) tNil))) tNil))) tNil)))) [10]) (gName 4))
  (tSeq (tIfS (tTest (tOp (rEqD K) (tCall (spH S_law_draw) [] E0 (tCons (tVar 1) (tCons (tC (.int 3)) tNil))) (tC (.int 0)))) (tAsg (tLc (iRng1 (tCons (tCB (rLen8 K) (tCons (tVar 4) tNil)) tNil)) (gName 10) tYes (tCB (rTupOf K) (tCons (tLc (iSeq8 K (tVar 3)) (gName 11) tYes (tTup (tCons (tVar 11) (tCons (tOp (rI0 fun i j => .int (i + j)) (tC (.int 1)) (tVar 10)) tNil))) [11]) tNil)) [10]) (gName 4)) tNext)
  (tSeq (tFor (iRng1 (tCons (tC (.int 3)) tNil)) (gName 5) (tSeq (tAsg (tCall (spH S_law_sieve) [] E0 (tCons (tVar 1) (tCons (tOp rCat (tVar 3) (tLst (tCons (tC (.str "x")) tNil))) (tCons (tC (.int 5)) (tCons (tCall (spH S_law_pick) [] E0 (tCons (tVar 1) (tCons (tLst (tCons (tC (.int 1)) (tCons (tC (.int 2)) tNil))) tNil))) tNil))))) (gName 6))
  (tSeq (tAsg (tCB (rRepr8 K) (tCons (tTup (tCons (tVar 6) (tCons (tVar 4) tNil))) tNil)) (gName 7))
  (tIfS (tOr (tNot (L2.tB (tCall (spH S_law_filter_right) [] E0 (tCons (tVar 1) (tCons (tVar 6) (tCons (tVar 4) tNil)))))) (tTest (tOp rNe (tCB (rRepr8 K) (tCons (tTup (tCons (tVar 6) (tCons (tVar 4) tNil))) tNil)) (tVar 7)))) (tRet (tC (.bl false))) tNext))))
  (tFor (iRng1 (tCons (tC (.int 2)) tNil)) (gName 5) (tIfS (tNot (L2.tB (tCall (spH S_law_rows_right) [] E0 (tCons (tVar 1) tNil)))) (tRet (tC (.bl false))) tNext)))))))
  (tSeq (tAsg (tTup (tCons (tC (.int 400)) (tCons (tTup (tCons (tTup (tCons (tC (.str "size")) (tCons (tC (.int 399)) (tCons (tUn (rU fun i => .int (-i)) (tOp (rI CPow fun i j => .int (i ^ j.toNat)) (tC (.int 10)) (tC (.int 9)))) (tCons (tOp (rI CPow fun i j => .int (i ^ j.toNat)) (tC (.int 10)) (tC (.int 9))) tNil))))) (tCons (tTup (tCons (tC (.str "tall")) (tCons (tC (.int 400)) (tCons (tC (.int 5)) (tCons (tC (.int 5)) tNil))))) tNil))) tNil))) (gName 8))
  (tSeq (tIfS (tOr (tTest (tOp (rNeD K) (tCall (spP S_verdict) [] E0 (tCons (tTup (tCons (tC (.str "in")) (tCons (tC (.str "size")) (tCons (tC (.int 7)) (tCons (tC (.int 7)) tNil))))) (tCons (tVar 8) tNil))) (tC (.str "some")))) (tOr (tTest (tOp (rNeD K) (tCall (spP S_verdict) [] E0 (tCons (tTup (tCons (tC (.str "in")) (tCons (tC (.str "tall")) (tCons (tC (.int 5)) (tCons (tC (.int 9)) tNil))))) (tCons (tVar 8) tNil))) (tC (.str "all")))) (tTest (tOp (rNeD K) (tCall (spP S_verdict) [] E0 (tCons (tTup (tCons (tC (.str "has")) (tCons (tC (.str "size")) tNil))) (tCons (tVar 8) tNil))) (tC (.str "some")))))) (tRet (tC (.bl false))) tNext)
  (tSeq (tAsg (tTup (tCons (tC (.int 2)) (tCons (tTup (tCons (tTup (tCons (tC (.str "size")) (tCons (tC (.int 2)) (tCons (tC (.int 3)) (tCons (tC (.int 9)) tNil))))) (tCons (tTup (tCons (tC (.str "tall")) (tCons (tC (.int 1)) (tCons (tC (.int 1)) (tCons (tC (.int 1)) tNil))))) tNil))) tNil))) (gName 9))
  (tSeq (tIfS (tOr (tTest (tOp (rNeD K) (tCall (spP S_verdict) [] E0 (tCons (tTup (tCons (tC (.str "in")) (tCons (tC (.str "size")) (tCons (tC (.int 4)) (tCons (tC (.int 8)) tNil))))) (tCons (tVar 9) tNil))) (tC (.str "none")))) (tOr (tTest (tOp (rNeD K) (tCall (spP S_verdict) [] E0 (tCons (tTup (tCons (tC (.str "in")) (tCons (tC (.str "size")) (tCons (tC (.int 4)) (tCons (tC (.int 9)) tNil))))) (tCons (tVar 9) tNil))) (tC (.str "some")))) (tTest (tOp (rNeD K) (tCall (spP S_verdict) [] E0 (tCons (tTup (tCons (tC (.str "all")) tNil)) (tCons (tTup (tCons (tC (.int 0)) (tCons (tTup tNil) tNil))) tNil))) (tC (.str "none")))))) (tRet (tC (.bl false))) tNext)
  (tRet (tAndV (tCall (spP S_may_pass) [] E0 (tCons (tTup (tCons (tC (.str "and")) (tCons (tTup (tCons (tC (.str "has")) (tCons (tC (.str "tall")) tNil))) (tCons (tTup (tCons (tC (.str "not")) (tCons (tTup (tCons (tC (.str "has")) (tCons (tC (.str "tall")) tNil))) tNil))) tNil)))) (tCons (tVar 9) tNil))) (tAndV (tCall (spP S_must_pass) [] E0 (tCons (tTup (tCons (tC (.str "not")) (tCons (tTup (tCons (tC (.str "all")) tNil)) tNil))) (tCons (tTup (tCons (tC (.int 0)) (tCons (tTup tNil) tNil))) tNil))) (tNotV (tCall (spP S_may_pass) [] E0 (tCons (tTup (tCons (tC (.str "all")) tNil)) (tCons (tTup (tCons (tC (.int 0)) (tCons (tTup tNil) tNil))) tNil))))))))))))
def w_law (wh : WA) (S_law_names S_law_draw S_law_pick S_law_labels S_law_sieve S_law_filter_right S_law_rows_right S_verdict S_may_pass S_must_pass : S8) : WS :=
  (wSeq (wFor (wRng1 wh) (wgName 2) (wSeq (wAsg (wCallH S_law_names 1 (wCons (wOp (wI (fun _ _ => True) fun i j => .int (i + j)) (wC (.int 1)) (wCallH S_law_draw 1 (wCons (wC (.int 4)) wNil))) wNil)) (wgName 3))
  (wSeq (wAsg (wL (wLc (wRng1 (wCons (wCallH S_law_pick 1 (wCons (wLst (wCons (wC (.int 0)) (wCons (wC (.int 1)) (wCons (wC (.int 2)) (wCons (wC (.int 2)) (wCons (wC (.int 3)) (wCons (wC (.int 3)) (wCons (wC (.int 6)) wNil)))))))) wNil)) wNil)) (wgName 10) wYes (wCallH S_law_labels 1 (wCons (wVar 3) (wCons (wCallH S_law_pick 1 (wCons (wLst (wCons (wC (.int 2)) (wCons (wC (.int 4)) wNil))) wNil)) wNil))) [10])) (wgName 4))
  (wSeq (wIfS (wB (wOp wEqD (wCallH S_law_draw 1 (wCons (wC (.int 3)) wNil)) (wC (.int 0)))) (wAsg (wL (wLc (wRng1 (wCons (wCB wLen (wCons (wVar 4) wNil)) wNil)) (wgName 10) wYes (wCB wTupOf (wCons (wL (wLc (wSeq8 (wVar 3)) (wgName 11) wYes (wTup (wCons (wVar 11) (wCons (wOp (wI (fun _ _ => True) fun i j => .int (i + j)) (wC (.int 1)) (wVar 10)) wNil))) [11])) wNil)) [10])) (wgName 4)) wNext)
  (wSeq (wFor (wRng1 (wCons (wC (.int 3)) wNil)) (wgName 5) (wSeq (wAsg (wCallH S_law_sieve 1 (wCons (wOp wCat (wVar 3) (wLst (wCons (wC (.str "x")) wNil))) (wCons (wC (.int 5)) (wCons (wCallH S_law_pick 1 (wCons (wLst (wCons (wC (.int 1)) (wCons (wC (.int 2)) wNil))) wNil)) wNil)))) (wgName 6))
  (wSeq (wAsg (wCB wRepr8 (wCons (wTup (wCons (wVar 6) (wCons (wVar 4) wNil))) wNil)) (wgName 7))
  (wIfS (wOr (wNot (wB (wCallH S_law_filter_right 1 (wCons (wVar 6) (wCons (wVar 4) wNil))))) (wB (wOp wNeS (wCB wRepr8 (wCons (wTup (wCons (wVar 6) (wCons (wVar 4) wNil))) wNil)) (wVar 7)))) (wRet (wC (.bool false))) wNext))))
  (wFor (wRng1 (wCons (wC (.int 2)) wNil)) (wgName 5) (wIfS (wNot (wB (wCallH S_law_rows_right 1 wNil))) (wRet (wC (.bool false))) wNext)))))))
  (wSeq (wAsg (wTup (wCons (wC (.int 400)) (wCons (wTup (wCons (wTup (wCons (wC (.str "size")) (wCons (wC (.int 399)) (wCons (wUn wNeg (wOp (wI CPow fun i j => .int (i ^ j.toNat)) (wC (.int 10)) (wC (.int 9)))) (wCons (wOp (wI CPow fun i j => .int (i ^ j.toNat)) (wC (.int 10)) (wC (.int 9))) wNil))))) (wCons (wTup (wCons (wC (.str "tall")) (wCons (wC (.int 400)) (wCons (wC (.int 5)) (wCons (wC (.int 5)) wNil))))) wNil))) wNil))) (wgName 8))
  (wSeq (wIfS (wOr (wB (wOp wNeD (wCall S_verdict (wCons (wTup (wCons (wC (.str "in")) (wCons (wC (.str "size")) (wCons (wC (.int 7)) (wCons (wC (.int 7)) wNil))))) (wCons (wVar 8) wNil))) (wC (.str "some")))) (wOr (wB (wOp wNeD (wCall S_verdict (wCons (wTup (wCons (wC (.str "in")) (wCons (wC (.str "tall")) (wCons (wC (.int 5)) (wCons (wC (.int 9)) wNil))))) (wCons (wVar 8) wNil))) (wC (.str "all")))) (wB (wOp wNeD (wCall S_verdict (wCons (wTup (wCons (wC (.str "has")) (wCons (wC (.str "size")) wNil))) (wCons (wVar 8) wNil))) (wC (.str "some")))))) (wRet (wC (.bool false))) wNext)
  (wSeq (wAsg (wTup (wCons (wC (.int 2)) (wCons (wTup (wCons (wTup (wCons (wC (.str "size")) (wCons (wC (.int 2)) (wCons (wC (.int 3)) (wCons (wC (.int 9)) wNil))))) (wCons (wTup (wCons (wC (.str "tall")) (wCons (wC (.int 1)) (wCons (wC (.int 1)) (wCons (wC (.int 1)) wNil))))) wNil))) wNil))) (wgName 9))
  (wSeq (wIfS (wOr (wB (wOp wNeD (wCall S_verdict (wCons (wTup (wCons (wC (.str "in")) (wCons (wC (.str "size")) (wCons (wC (.int 4)) (wCons (wC (.int 8)) wNil))))) (wCons (wVar 9) wNil))) (wC (.str "none")))) (wOr (wB (wOp wNeD (wCall S_verdict (wCons (wTup (wCons (wC (.str "in")) (wCons (wC (.str "size")) (wCons (wC (.int 4)) (wCons (wC (.int 9)) wNil))))) (wCons (wVar 9) wNil))) (wC (.str "some")))) (wB (wOp wNeD (wCall S_verdict (wCons (wTup (wCons (wC (.str "all")) wNil)) (wCons (wTup (wCons (wC (.int 0)) (wCons (wTup wNil) wNil))) wNil))) (wC (.str "none")))))) (wRet (wC (.bool false))) wNext)
  (wRet (wAndV (wCall S_may_pass (wCons (wTup (wCons (wC (.str "and")) (wCons (wTup (wCons (wC (.str "has")) (wCons (wC (.str "tall")) wNil))) (wCons (wTup (wCons (wC (.str "not")) (wCons (wTup (wCons (wC (.str "has")) (wCons (wC (.str "tall")) wNil))) wNil))) wNil)))) (wCons (wVar 9) wNil))) (wAndV (wCall S_must_pass (wCons (wTup (wCons (wC (.str "not")) (wCons (wTup (wCons (wC (.str "all")) wNil)) wNil))) (wCons (wTup (wCons (wC (.int 0)) (wCons (wTup wNil) wNil))) wNil))) (wNotV (wCall S_may_pass (wCons (wTup (wCons (wC (.str "all")) wNil)) (wCons (wTup (wCons (wC (.int 0)) (wCons (wTup wNil) wNil))) wNil))))))))))))
theorem snd_law {K : PySem.W.Frag} {th : TA} {wh : WA} {S_law_names S_law_draw S_law_pick S_law_labels S_law_sieve S_law_filter_right S_law_rows_right S_verdict S_may_pass S_must_pass : S8} (hh : SndA th wh) : SndS (tr_law K th S_law_names S_law_draw S_law_pick S_law_labels S_law_sieve S_law_filter_right S_law_rows_right S_verdict S_may_pass S_must_pass) (w_law wh S_law_names S_law_draw S_law_pick S_law_labels S_law_sieve S_law_filter_right S_law_rows_right S_verdict S_may_pass S_must_pass) :=
  (s_seq (s_for (i_rng1 hh) (g_name 2) (s_seq (s_asg (snd_callH (snd_cons (snd_op r_I0 (snd_int 1) (snd_callH (snd_cons (snd_int 4) snd_nil))) snd_nil)) (g_name 3))
  (s_seq (s_asg (snd_L (l_lc (i_rng1 (snd_cons (snd_callH (snd_cons (snd_lst (snd_cons (snd_int 0) (snd_cons (snd_int 1) (snd_cons (snd_int 2) (snd_cons (snd_int 2) (snd_cons (snd_int 3) (snd_cons (snd_int 3) (snd_cons (snd_int 6) snd_nil)))))))) snd_nil)) snd_nil)) (g_name 10) (in_name (by decide)) snd_yes (snd_callH (snd_cons (snd_var 3) (snd_cons (snd_callH (snd_cons (snd_lst (snd_cons (snd_int 2) (snd_cons (snd_int 4) snd_nil))) snd_nil)) snd_nil))))) (g_name 4))
  (s_seq (s_if (snd_test (snd_op r_eq (snd_callH (snd_cons (snd_int 3) snd_nil)) (snd_int 0))) (s_asg (snd_L (l_lc (i_rng1 (snd_cons (snd_cb c_len (snd_cons (snd_var 4) snd_nil)) snd_nil)) (g_name 10) (in_name (by decide)) snd_yes (snd_cb c_tupOf (snd_cons (snd_L (l_lc (i_seq (snd_var 3)) (g_name 11) (in_name (by decide)) snd_yes (snd_tup (snd_cons (snd_var 11) (snd_cons (snd_op r_I0 (snd_int 1) (snd_var 10)) snd_nil))))) snd_nil)))) (g_name 4)) s_next)
  (s_seq (s_for (i_rng1 (snd_cons (snd_int 3) snd_nil)) (g_name 5) (s_seq (s_asg (snd_callH (snd_cons (snd_op r_cat (snd_var 3) (snd_lst (snd_cons (snd_str "x") snd_nil))) (snd_cons (snd_int 5) (snd_cons (snd_callH (snd_cons (snd_lst (snd_cons (snd_int 1) (snd_cons (snd_int 2) snd_nil))) snd_nil)) snd_nil)))) (g_name 6))
  (s_seq (s_asg (snd_cb c_repr (snd_cons (snd_tup (snd_cons (snd_var 6) (snd_cons (snd_var 4) snd_nil))) snd_nil)) (g_name 7))
  (s_if (snd_or (snd_not (snd_B (snd_callH (snd_cons (snd_var 6) (snd_cons (snd_var 4) snd_nil))))) (snd_test (snd_op r_neS (snd_cb c_repr (snd_cons (snd_tup (snd_cons (snd_var 6) (snd_cons (snd_var 4) snd_nil))) snd_nil)) (snd_var 7)))) (s_ret (snd_bl false)) s_next))))
  (s_for (i_rng1 (snd_cons (snd_int 2) snd_nil)) (g_name 5) (s_if (snd_not (snd_B (snd_callH snd_nil))) (s_ret (snd_bl false)) s_next)))))))
  (s_seq (s_asg (snd_tup (snd_cons (snd_int 400) (snd_cons (snd_tup (snd_cons (snd_tup (snd_cons (snd_str "size") (snd_cons (snd_int 399) (snd_cons (snd_neg (snd_op r_I (snd_int 10) (snd_int 9))) (snd_cons (snd_op r_I (snd_int 10) (snd_int 9)) snd_nil))))) (snd_cons (snd_tup (snd_cons (snd_str "tall") (snd_cons (snd_int 400) (snd_cons (snd_int 5) (snd_cons (snd_int 5) snd_nil))))) snd_nil))) snd_nil))) (g_name 8))
  (s_seq (s_if (snd_or (snd_test (snd_op r_ne (snd_call (snd_cons (snd_tup (snd_cons (snd_str "in") (snd_cons (snd_str "size") (snd_cons (snd_int 7) (snd_cons (snd_int 7) snd_nil))))) (snd_cons (snd_var 8) snd_nil))) (snd_str "some"))) (snd_or (snd_test (snd_op r_ne (snd_call (snd_cons (snd_tup (snd_cons (snd_str "in") (snd_cons (snd_str "tall") (snd_cons (snd_int 5) (snd_cons (snd_int 9) snd_nil))))) (snd_cons (snd_var 8) snd_nil))) (snd_str "all"))) (snd_test (snd_op r_ne (snd_call (snd_cons (snd_tup (snd_cons (snd_str "has") (snd_cons (snd_str "size") snd_nil))) (snd_cons (snd_var 8) snd_nil))) (snd_str "some"))))) (s_ret (snd_bl false)) s_next)
  (s_seq (s_asg (snd_tup (snd_cons (snd_int 2) (snd_cons (snd_tup (snd_cons (snd_tup (snd_cons (snd_str "size") (snd_cons (snd_int 2) (snd_cons (snd_int 3) (snd_cons (snd_int 9) snd_nil))))) (snd_cons (snd_tup (snd_cons (snd_str "tall") (snd_cons (snd_int 1) (snd_cons (snd_int 1) (snd_cons (snd_int 1) snd_nil))))) snd_nil))) snd_nil))) (g_name 9))
  (s_seq (s_if (snd_or (snd_test (snd_op r_ne (snd_call (snd_cons (snd_tup (snd_cons (snd_str "in") (snd_cons (snd_str "size") (snd_cons (snd_int 4) (snd_cons (snd_int 8) snd_nil))))) (snd_cons (snd_var 9) snd_nil))) (snd_str "none"))) (snd_or (snd_test (snd_op r_ne (snd_call (snd_cons (snd_tup (snd_cons (snd_str "in") (snd_cons (snd_str "size") (snd_cons (snd_int 4) (snd_cons (snd_int 9) snd_nil))))) (snd_cons (snd_var 9) snd_nil))) (snd_str "some"))) (snd_test (snd_op r_ne (snd_call (snd_cons (snd_tup (snd_cons (snd_str "all") snd_nil)) (snd_cons (snd_tup (snd_cons (snd_int 0) (snd_cons (snd_tup snd_nil) snd_nil))) snd_nil))) (snd_str "none"))))) (s_ret (snd_bl false)) s_next)
  (s_ret (snd_andV (snd_call (snd_cons (snd_tup (snd_cons (snd_str "and") (snd_cons (snd_tup (snd_cons (snd_str "has") (snd_cons (snd_str "tall") snd_nil))) (snd_cons (snd_tup (snd_cons (snd_str "not") (snd_cons (snd_tup (snd_cons (snd_str "has") (snd_cons (snd_str "tall") snd_nil))) snd_nil))) snd_nil)))) (snd_cons (snd_var 9) snd_nil))) (snd_andV (snd_call (snd_cons (snd_tup (snd_cons (snd_str "not") (snd_cons (snd_tup (snd_cons (snd_str "all") snd_nil)) snd_nil))) (snd_cons (snd_tup (snd_cons (snd_int 0) (snd_cons (snd_tup snd_nil) snd_nil))) snd_nil))) (snd_notV (snd_call (snd_cons (snd_tup (snd_cons (snd_str "all") snd_nil)) (snd_cons (snd_tup (snd_cons (snd_int 0) (snd_cons (snd_tup snd_nil) snd_nil))) snd_nil))))))))))))
def t_law (K : PySem.W.Frag) (S_law_names S_law_draw S_law_pick S_law_labels S_law_sieve S_law_filter_right S_law_rows_right S_verdict S_may_pass S_must_pass : S8) : TS := tSeq (tAsg (tCall (spHeap K) [] E0 (tCons (tVar 0) tNil)) (gName 1)) (tr_law K (th_law K) S_law_names S_law_draw S_law_pick S_law_labels S_law_sieve S_law_filter_right S_law_rows_right S_verdict S_may_pass S_must_pass)
theorem pss_law {P : Program} {w : World} {K : PySem.W.Frag} {mg : Str → Option Value} {base : Heap} {f : Addr} {k : Nat} {S_law_names S_law_draw S_law_pick S_law_labels S_law_sieve S_law_filter_right S_law_rows_right S_verdict S_may_pass S_must_pass : S8} {cdv : Value} {A : Around} {outer : List Env} {s : Shared} {H : Hp} {E : XK}
    (bi : Bi mg) (c_law_heap : Cal P w K mg base "_law_heap" ["_law_script"] k (spHeap K))
    (c_law_names : Cal P w K mg base "_law_names" ["_law_heap_here", "_law_many"] k (spH S_law_names))
    (c_law_draw : Cal P w K mg base "_law_draw" ["_law_heap_here", "_law_many"] k (spH S_law_draw))
    (c_law_pick : Cal P w K mg base "_law_pick" ["_law_heap_here", "_law_some"] k (spH S_law_pick))
    (c_law_labels : Cal P w K mg base "_law_labels" ["_law_heap_here", "_law_names_here", "_law_span"] k (spH S_law_labels))
    (c_law_sieve : Cal P w K mg base "_law_sieve" ["_law_heap_here", "_law_names_here", "_law_span", "_law_depth"] k (spH S_law_sieve))
    (c_law_filter_right : Cal P w K mg base "_law_filter_right" ["_law_heap_here", "_law_sieve_here", "_law_labels_here"] k (spH S_law_filter_right))
    (c_law_rows_right : Cal P w K mg base "_law_rows_right" ["_law_heap_here"] k (spH S_law_rows_right))
    (c_verdict : Cal P w K mg base "verdict" ["sieve", "told"] k (spP S_verdict))
    (c_may_pass : Cal P w K mg base "may_pass" ["sieve", "told"] k (spP S_may_pass))
    (c_must_pass : Cal P w K mg base "must_pass" ["sieve", "told"] k (spP S_must_pass))
    (hr : Room k (A.deeper (envOfC "law" (defScope s_law) s.heap.objs.size f cdv))) (hg : A.guards = some []) : PSs (cxOf CX0 P w K mg base N_law "law" (defScope s_law) f cdv A outer s H E).nox (defBody s_law) (t_law K S_law_names S_law_draw S_law_pick S_law_labels S_law_sieve S_law_filter_right S_law_rows_right S_verdict S_may_pass S_must_pass) := by
  exact (pss_cons (ps_set (i := 1) sc_law.nd rfl (Or.inr rfl) (pe_cal c_law_heap hr (by rfl) (pa_cons (pv 0) pa_nil)))
    (pss_cons (ps_for PassesOwn.never (by rfl) (pi_range1 (by rfl) bi.range (pa_cons (pe_op op_add pe_int (pe_callTy k_int (by rfl) bi.int bo_int (pa_cons (pe_cmpR op_gt (pe_callB k_len (by rfl) bi.len bo_len (pa_cons (pv 0) pa_nil)) pe_int (nomark _)) pa_nil))) pa_nil)) (pg_name (i := 2) sc_law.nd rfl (by first | exact Or.inl rfl | exact Or.inr rfl)) (pss_cons (ps_set (i := 3) sc_law.nd rfl (Or.inr rfl) (pe_cal c_law_names hr (by rfl) (pa_cons (pv 1) (pa_cons (pe_op op_add pe_int (pe_cal c_law_draw hr (by rfl) (pa_cons (pv 1) (pa_cons pe_int pa_nil)))) pa_nil))))
    (pss_cons (ps_setLc (i := 4) (own := [("_law_at", 10)]) (wi := (iRng1 (tCons (tCall (spH S_law_pick) [] E0 (tCons (tVar 1) (tCons (tLst (tCons (tC (.int 0)) (tCons (tC (.int 1)) (tCons (tC (.int 2)) (tCons (tC (.int 2)) (tCons (tC (.int 3)) (tCons (tC (.int 3)) (tCons (tC (.int 6)) tNil)))))))) tNil))) tNil))) (g := (gName 10)) (tt := tYes) (te := (tCall (spH S_law_labels) [] E0 (tCons (tVar 1) (tCons (tVar 3) (tCons (tCall (spH S_law_pick) [] E0 (tCons (tVar 1) (tCons (tLst (tCons (tC (.int 2)) (tCons (tC (.int 4)) tNil))) tNil))) tNil))))) (by rfl) sc_law.nd rfl rfl (sw_true rfl rfl rfl (by decide +kernel)) (pi_range1 (by rfl) bi.range (pa_cons (pe_cal c_law_pick hr (by rfl) (pa_cons (pv 1) (pa_cons (pe_lst (pa_cons pe_int (pa_cons pe_int (pa_cons pe_int (pa_cons pe_int (pa_cons pe_int (pa_cons pe_int (pa_cons pe_int pa_nil)))))))) pa_nil))) pa_nil)) (blkOk_by (own := [("_law_at", 10)]) (N := N_law) (sc := defScope s_law) (by decide +kernel)) (fun _ _ _ _ _ => (pg_name (i := 10) sc_law.nd rfl (by first | exact Or.inl rfl | exact Or.inr rfl))) (fun _ _ _ _ _ => pts_nil) (fun _ _ _ _ _ => (pe_cal c_law_labels hr (by rfl) (pa_cons (pv 1) (pa_cons (pv 3) (pa_cons (pe_cal c_law_pick hr (by rfl) (pa_cons (pv 1) (pa_cons (pe_lst (pa_cons pe_int (pa_cons pe_int pa_nil))) pa_nil))) pa_nil))))))
    (pss_cons (ps_if (pt_cmpR (op_eqD hr.units) (pe_cal c_law_draw hr (by rfl) (pa_cons (pv 1) (pa_cons pe_int pa_nil))) pe_int (nomark _)) (pss_one (ps_setLc (i := 4) (own := [("_law_at", 10)]) (wi := (iRng1 (tCons (tCB (rLen8 K) (tCons (tVar 4) tNil)) tNil))) (g := (gName 10)) (tt := tYes) (te := (tCB (rTupOf K) (tCons (tLc (iSeq8 K (tVar 3)) (gName 11) tYes (tTup (tCons (tVar 11) (tCons (tOp (rI0 fun i j => .int (i + j)) (tC (.int 1)) (tVar 10)) tNil))) [11]) tNil))) (by rfl) sc_law.nd rfl rfl (sw_true rfl rfl rfl (by decide +kernel)) (pi_range1 (by rfl) bi.range (pa_cons (pe_callB k_len (by rfl) bi.len bo_len (pa_cons (pv 4) pa_nil)) pa_nil)) (blkOk_by (own := [("_law_at", 10)]) (N := N_law) (sc := defScope s_law) (by decide +kernel)) (fun _ _ _ _ _ => (pg_name (i := 10) sc_law.nd rfl (by first | exact Or.inl rfl | exact Or.inr rfl))) (fun _ _ _ _ _ => pts_nil) (fun _ _ _ _ _ => (pe_callTy k_tuple (by rfl) bi.tuple bo_tuple (pa_cons (pe_lc (own := [("_law_name", 11)]) (wi := (iSeq8 K (tVar 3))) (g := (gName 11)) (tt := tYes) (te := (tTup (tCons (tVar 11) (tCons (tOp (rI0 fun i j => .int (i + j)) (tC (.int 1)) (tVar 10)) tNil)))) (by rfl) sc_law.nd (pi_seq8 (pv 3)) (blkOk_by (own := [("_law_name", 11)]) (N := N_law) (sc := relS oSc_law (defScope s_law)) (by decide +kernel)) (fun _ _ _ _ _ => (pg_name (i := 11) sc_law.nd rfl (by first | exact Or.inl rfl | exact Or.inr rfl))) (fun _ _ _ _ _ => pts_nil) (fun _ _ _ _ _ => (pe_tup (pa_cons (pv 11) (pa_cons (pe_op op_add pe_int (pv 10)) pa_nil))))) pa_nil))))) pss_nil)
    (pss_cons (ps_for PassesOwn.never (by rfl) (pi_range1 (by rfl) bi.range (pa_cons pe_int pa_nil)) (pg_name (i := 5) sc_law.nd rfl (by first | exact Or.inl rfl | exact Or.inr rfl)) (pss_cons (ps_set (i := 6) sc_law.nd rfl (Or.inl rfl) (pe_cal c_law_sieve hr (by rfl) (pa_cons (pv 1) (pa_cons (pe_op op_cat (pv 3) (pe_lst (pa_cons pe_str pa_nil))) (pa_cons pe_int (pa_cons (pe_cal c_law_pick hr (by rfl) (pa_cons (pv 1) (pa_cons (pe_lst (pa_cons pe_int (pa_cons pe_int pa_nil))) pa_nil))) pa_nil))))))
    (pss_cons (ps_set (i := 7) sc_law.nd rfl (Or.inl rfl) (pe_callB (k_repr hr hg) (by rfl) bi.repr bo_repr (pa_cons (pe_tup (pa_cons (pv 6) (pa_cons (pv 4) pa_nil))) pa_nil)))
    (pss_one (ps_if ((pw_or (pt_not (pt_val (pe_cal c_law_filter_right hr (by rfl) (pa_cons (pv 1) (pa_cons (pv 6) (pa_cons (pv 4) pa_nil)))))) (pw_or1 (pt_cmpR op_ne (pe_callB (k_repr hr hg) (by rfl) bi.repr bo_repr (pa_cons (pe_tup (pa_cons (pv 6) (pa_cons (pv 4) pa_nil))) pa_nil)) (pv 7) (nomark _))))).pt (pss_one (ps_ret pe_bl)) pss_nil)))))
    (pss_one (ps_for PassesOwn.never (by rfl) (pi_range1 (by rfl) bi.range (pa_cons pe_int pa_nil)) (pg_name (i := 5) sc_law.nd rfl (by first | exact Or.inl rfl | exact Or.inr rfl)) (pss_one (ps_if (pt_not (pt_val (pe_cal c_law_rows_right hr (by rfl) (pa_cons (pv 1) pa_nil)))) (pss_one (ps_ret pe_bl)) pss_nil)))))))))
    (pss_cons (ps_set (i := 8) sc_law.nd rfl (Or.inl rfl) (pe_tup (pa_cons pe_int (pa_cons (pe_tup (pa_cons (pe_tup (pa_cons pe_str (pa_cons pe_int (pa_cons (pe_un un_neg (pe_op op_pow pe_int pe_int)) (pa_cons (pe_op op_pow pe_int pe_int) pa_nil))))) (pa_cons (pe_tup (pa_cons pe_str (pa_cons pe_int (pa_cons pe_int (pa_cons pe_int pa_nil))))) pa_nil))) pa_nil))))
    (pss_cons (ps_if ((pw_or (pt_cmpR (op_neD hr.units) (pe_cal c_verdict hr (by rfl) (pa_cons (pe_tup (pa_cons pe_str (pa_cons pe_str (pa_cons pe_int (pa_cons pe_int pa_nil))))) (pa_cons (pv 8) pa_nil))) pe_str (nomark _)) (pw_or (pt_cmpR (op_neD hr.units) (pe_cal c_verdict hr (by rfl) (pa_cons (pe_tup (pa_cons pe_str (pa_cons pe_str (pa_cons pe_int (pa_cons pe_int pa_nil))))) (pa_cons (pv 8) pa_nil))) pe_str (nomark _)) (pw_or1 (pt_cmpR (op_neD hr.units) (pe_cal c_verdict hr (by rfl) (pa_cons (pe_tup (pa_cons pe_str (pa_cons pe_str pa_nil))) (pa_cons (pv 8) pa_nil))) pe_str (nomark _)))))).pt (pss_one (ps_ret pe_bl)) pss_nil)
    (pss_cons (ps_set (i := 9) sc_law.nd rfl (Or.inl rfl) (pe_tup (pa_cons pe_int (pa_cons (pe_tup (pa_cons (pe_tup (pa_cons pe_str (pa_cons pe_int (pa_cons pe_int (pa_cons pe_int pa_nil))))) (pa_cons (pe_tup (pa_cons pe_str (pa_cons pe_int (pa_cons pe_int (pa_cons pe_int pa_nil))))) pa_nil))) pa_nil))))
    (pss_cons (ps_if ((pw_or (pt_cmpR (op_neD hr.units) (pe_cal c_verdict hr (by rfl) (pa_cons (pe_tup (pa_cons pe_str (pa_cons pe_str (pa_cons pe_int (pa_cons pe_int pa_nil))))) (pa_cons (pv 9) pa_nil))) pe_str (nomark _)) (pw_or (pt_cmpR (op_neD hr.units) (pe_cal c_verdict hr (by rfl) (pa_cons (pe_tup (pa_cons pe_str (pa_cons pe_str (pa_cons pe_int (pa_cons pe_int pa_nil))))) (pa_cons (pv 9) pa_nil))) pe_str (nomark _)) (pw_or1 (pt_cmpR (op_neD hr.units) (pe_cal c_verdict hr (by rfl) (pa_cons (pe_tup (pa_cons pe_str pa_nil)) (pa_cons (pe_tup (pa_cons pe_int (pa_cons (pe_tup pa_nil) pa_nil))) pa_nil))) pe_str (nomark _)))))).pt (pss_one (ps_ret pe_bl)) pss_nil)
    (pss_one (ps_ret (pe_and (pe_cal c_may_pass hr (by rfl) (pa_cons (pe_tup (pa_cons pe_str (pa_cons (pe_tup (pa_cons pe_str (pa_cons pe_str pa_nil))) (pa_cons (pe_tup (pa_cons pe_str (pa_cons (pe_tup (pa_cons pe_str (pa_cons pe_str pa_nil))) pa_nil))) pa_nil)))) (pa_cons (pv 9) pa_nil))) (pe_and (pe_cal c_must_pass hr (by rfl) (pa_cons (pe_tup (pa_cons pe_str (pa_cons (pe_tup (pa_cons pe_str pa_nil)) pa_nil))) (pa_cons (pe_tup (pa_cons pe_int (pa_cons (pe_tup pa_nil) pa_nil))) pa_nil))) (pe_one (pe_not (pe_cal c_may_pass hr (by rfl) (pa_cons (pe_tup (pa_cons pe_str pa_nil)) (pa_cons (pe_tup (pa_cons pe_int (pa_cons (pe_tup pa_nil) pa_nil))) pa_nil)))))))))))))))

end D8
namespace D8
open PySem PySem.Spec PyProof.Rows L2
local macro_rules | `(tactic| walk_at "dl") => `(tactic| simp only [wSeq, wIfS, wRet, wAsg, wPar, wNext, wB, wOp, wUn, wNeg, wVar, wC, wIx, wEqD, wNeD, wInD, wNotInD, wI, wTup, wLst, wCons, wNil, wCB, wCall, wCallH, wCal2, wIfE, wAnd, wOr, wNot, wAndV, wOrV, wNotV, wChain, wIsN, wNotN, wgName, wgTup, wgCons, wgNil, wL, wYes, wSl, wPart, wNoPart, wCat, wCatT, wRep,
  wLen, wMin2, wMax2, wAll, wAny, wTupOf, wListOf, wInt1, wOwn, wApp, wFrz, wIxOwn, wDrop, dats, List.map_cons, List.map_nil, List.cons_append, List.nil_append, List.replicate, List.set_cons_zero, List.set_cons_succ, List.getElem?_cons_zero, List.getElem?_cons_succ, Option.some.injEq, Sl.dat.injEq, Sl.own.injEq, exists_eq_left', exists_eq_left, exists_eq_right', exists_eq_right,
  PyData.tuple.injEq, PyData.list.injEq, PyData.int.injEq, PyData.str.injEq, PyData.bool.injEq, List.cons.injEq, reduceCtorEq, false_or, or_false, false_and, and_false, and_true, true_and, exists_const, exists_false, eqv_str, eqv_int, eqv_bool, shaped_int, shaped_bool, and_assoc, exists_and_left, List.length_cons, List.length_nil, Nat.reduceAdd, Nat.zero_add, at0, at1, at2, at3, cut1, cut2, beq_self_eq_true, Bool.not_true, Bool.not_false, Bool.false_eq_true, false_implies, true_implies, forall_const, eq_self_iff_true, forall_eq, forall_eq', Bool.true_eq_false, sw_all_has, sw_all_in, sw_all_not, sw_all_and, sw_all_or, sw_all_none, sw_all_some, sw_has_all, sw_has_in, sw_has_not, sw_has_and, sw_has_or, sw_has_none, sw_has_some, sw_in_all, sw_in_has, sw_in_not, sw_in_and, sw_in_or, sw_in_none, sw_in_some, sw_not_all, sw_not_has, sw_not_in, sw_not_and, sw_not_or, sw_not_none, sw_not_some, sw_and_all, sw_and_has, sw_and_in, sw_and_not, sw_and_or, sw_and_none, sw_and_some, sw_or_all, sw_or_has, sw_or_in, sw_or_not, sw_or_and, sw_or_none, sw_or_some, sw_none_all, sw_none_has, sw_none_in, sw_none_not, sw_none_and, sw_none_or, sw_none_some, sw_some_all, sw_some_has, sw_some_in, sw_some_not, sw_some_and, sw_some_or, sw_some_none, shw_all, shw_has, shw_in, shw_not, shw_and, shw_or, shw_none, shw_some])
local macro_rules | `(tactic| walk_at "sw") => `(tactic| simp only [sw_all_has, sw_all_in, sw_all_not, sw_all_and, sw_all_or, sw_all_none, sw_all_some, sw_has_all, sw_has_in, sw_has_not, sw_has_and, sw_has_or, sw_has_none, sw_has_some, sw_in_all, sw_in_has, sw_in_not, sw_in_and, sw_in_or, sw_in_none, sw_in_some, sw_not_all, sw_not_has, sw_not_in, sw_not_and, sw_not_or, sw_not_none, sw_not_some, sw_and_all, sw_and_has, sw_and_in, sw_and_not, sw_and_or, sw_and_none, sw_and_some, sw_or_all, sw_or_has, sw_or_in, sw_or_not, sw_or_and, sw_or_none, sw_or_some, sw_none_all, sw_none_has, sw_none_in, sw_none_not, sw_none_and, sw_none_or, sw_none_some, sw_some_all, sw_some_has, sw_some_in, sw_some_not, sw_some_and, sw_some_or, sw_some_none, beq_self_eq_true])
/-! ### the law -/
theorem ver_is {f : Fil} {c : Int} {rs : List Rw} {D : PyData} {v : Vd} {Q : PyData → Prop} (e : D = f.enc) (hw : f.wf) (hd : f.dep < N8) (hr : Rok rs) (hv : verd c rs f = v) (q : Q (.str v.s)) : S_verdict N8 [D, encT c rs] Q :=
  ⟨f, c, rs, by rw [e], hw, hd, hr, by rw [hv]; exact q⟩
theorem word_same {N Q : Prop} (v : Vd) (k : N) : SeqAt.shaped (.str v.s) = true ∧ ((!PyData.eqv (.str v.s) (.str v.s)) = true → Q) ∧ ((!PyData.eqv (.str v.s) (.str v.s)) = false → N) := by
  rw [eqv_str, beq_self_eq_true]
  exact ⟨shaped_vd v, fun z => (nomatch z), fun _ => k⟩
def farR : List Rw := [⟨"size", 399, -(10 ^ 9), 10 ^ 9⟩, ⟨"tall", 400, 5, 5⟩]
def nearR : List Rw := [⟨"size", 2, 3, 9⟩, ⟨"tall", 1, 1, 1⟩]
theorem so_tall' : sok "tall" := u8_sok (by decide +kernel)
theorem rok_far : Rok farR := fun r hr => by
  rcases List.mem_cons.mp hr with e | hr
  · rw [e]; exact so_size
  · rw [List.mem_singleton.mp hr]; exact so_tall'
theorem rok_near : Rok nearR := fun r hr => by
  rcases List.mem_cons.mp hr with e | hr
  · rw [e]; exact so_size
  · rw [List.mem_singleton.mp hr]; exact so_tall'
theorem rok_nil : Rok [] := fun _ h => nomatch h
theorem s1 : 1 ≤ sizeLine := by rw [sizeLine_eq]; omega
theorem s4 : 4 ≤ sizeLine := by rw [sizeLine_eq]; omega
theorem ns_sok {ns : List Str} {m : Nat} (h : Ns ns m) : ∀ n ∈ ns, sok n := fun n hn => u8_sok (h.u8 n hn)
theorem law_law (t : Nat) (ht : t ≤ 2) (P : PyData → Prop) (p : P (.bool true)) : w_law (wCons (wC (.int t)) wNil) S_law_names S_law_draw S_law_pick S_law_labels (S_law_sieve 3) S_law_filter_right S_law_rows_right (S_verdict N8) (S_may_pass N8) (S_must_pass N8) { nx := fun _ => P .none, rt := P } [.un, .heap, .un, .un, .un, .un, .un, .un, .un, .un, .un, .un] := by
  unfold w_law
  refine seq_any (fun ρ => ∃ x2 x3 x4 x5 x6 x7, ρ = [.un, .heap, x2, x3, x4, x5, x6, x7, .un, .un, .un, .un]) (fun N k => ?_) fun ρ hJ => ?_
  · refine ⟨t, rfl, by omega, by omega, for_inv (List.range _) (fun i => PyData.int (i : Nat)) (fun pre ρ => ∃ x2 x3 x4 x5 x6 x7, ρ = [.un, .heap, x2, x3, x4, x5, x6, x7, .un, .un, .un, .un]) ⟨_, _, _, _, _, _, rfl⟩ (fun pre i post ρ' N er hJ k => ?_) k⟩
    obtain ⟨x2, x3, x4, x5, x6, x7, rfl⟩ := hJ
    refine seq_any (fun ρ => ∃ (ns : List Str) (m : Nat), ρ = [.un, .heap, .dat (.int i), .dat (.list (ns.map .str)), x4, x5, x6, x7, .un, .un, .un, .un] ∧ Ns ns m ∧ 1 ≤ m ∧ m ≤ 4) (fun N k => ?_) fun ρ hJ => ?_
    · walk_at "dl"
      refine ⟨4, rfl, by omega, by omega, fun a a0 a1 => ⟨a, rfl, (1 + a).toNat, ?_, by omega, fun ns hn => k _ ⟨ns, _, rfl, hn, by omega, by omega⟩⟩⟩
      rw [show (((1 + a).toNat : Nat) : Int) = 1 + a by omega]
    obtain ⟨ns, m, rfl, hn, m1, m4⟩ := hJ
    refine seq_any (fun ρ => ∃ (lss : List Lab), ρ = [.un, .heap, .dat (.int i), .dat (.list (ns.map .str)), .dat (.list (lss.map encL)), x5, x6, x7, .un, .un, .un, .un] ∧ lss.length ≤ 6 ∧ ∀ ls ∈ lss, Sm ls) (fun N k => ?_) fun ρ hJ => ?_
    · walk_at "dl"
      refine ⟨rfl, rfl, by rw [sizeLine_eq]; exact (show 7 ≤ 16777216 by decide), _, rfl, (show 0 < 7 by decide), (show 7 ≤ 1000 by decide), fun x hx => ?_⟩
      have hx2 : ∃ c : Nat, x = .int c ∧ c ≤ 6 := by
        simp only [List.mem_cons, List.not_mem_nil, or_false] at hx
        rcases hx with e | e | e | e | e | e | e
        · exact ⟨0, e, by omega⟩
        · exact ⟨1, e, by omega⟩
        · exact ⟨2, e, by omega⟩
        · exact ⟨2, e, by omega⟩
        · exact ⟨3, e, by omega⟩
        · exact ⟨3, e, by omega⟩
        · exact ⟨6, e, by omega⟩
      obtain ⟨c, rfl, hc⟩ := hx2
      refine ⟨c, rfl, by omega, by omega, ?_⟩
      rw [range_enc]
      refine ⟨by rw [List.length_map, List.length_range]; omega, lc_any (List.range c) (fun i => PyData.int (i : Nat)) (fun i acc => ∃ lss : List Lab, acc = lss.map encL ∧ lss.length = i ∧ ∀ ls ∈ lss, Sm ls) ⟨[], rfl, rfl, fun _ h => (nomatch h)⟩ (fun i x acc hx hI => ?_) fun acc hI => ?_⟩
      · obtain ⟨lss, rfl, hl, h8⟩ := hI
        refine ⟨rfl, fun _ => ?_, fun z => (nomatch z)⟩
        refine ⟨rfl, _, rfl, rfl, sz2, _, rfl, (show 0 < 2 by decide), (show 2 ≤ 1000 by decide), fun y hy => ?_⟩
        have hy2 : ∃ q : Int, y = .int q ∧ 0 < q ∧ q ≤ 100 := by
          simp only [List.mem_cons, List.not_mem_nil, or_false] at hy
          rcases hy with e | e
          · exact ⟨2, e, by omega, by omega⟩
          · exact ⟨4, e, by omega, by omega⟩
        obtain ⟨q, rfl, q0, q1⟩ := hy2
        refine ⟨ns, q, rfl, hn.nd, hn.u8, q0, q1, fun ls hs => ⟨lss ++ [ls], by rw [List.map_append] <;> rfl, by rw [List.length_append, hl] <;> rfl, fun l hm => ?_⟩⟩
        rcases List.mem_append.mp hm with hm | hm
        · exact h8 l hm
        · rw [List.mem_singleton.mp hm]; exact hs
      · obtain ⟨lss, rfl, hl, h8⟩ := hI
        rw [List.length_range] at hl
        exact k _ ⟨lss, rfl, by omega, h8⟩
    obtain ⟨lss0, rfl, hl0, h80⟩ := hJ
    refine seq_any (fun ρ => ∃ (lss : List Lab), ρ = [.un, .heap, .dat (.int i), .dat (.list (ns.map .str)), .dat (.list (lss.map encL)), x5, x6, x7, .un, .un, .un, .un] ∧ lss.length ≤ 6 ∧ ∀ ls ∈ lss, Sm ls) (fun N k => ?_) fun ρ hJ => ?_
    · walk_at "dl"
      refine ⟨3, rfl, by omega, by omega, fun a a0 a1 => ⟨shaped_int _, fun _ => ?_, fun _ => k _ ⟨lss0, rfl, hl0, h80⟩⟩⟩
      refine ⟨rfl, _, rfl, _, .inl rfl, lss0.length, by rw [List.length_map], by omega, by omega, ?_⟩
      rw [range_enc]
      have n8 := u8_len hn.nd hn.u8
      refine ⟨by rw [List.length_map, List.length_range]; omega, lc_all (List.range lss0.length) (fun i => PyData.int (i : Nat)) (fun (i : Nat) => encL (ns.map fun n => (n, 1 + (i : Int)))) (fun i Y N hi k => ?_) ?_⟩
      · refine ⟨rfl, fun _ => ?_, fun z => (nomatch z)⟩
        refine ⟨rfl, _, rfl, _, .inl rfl, by rw [List.length_map]; omega, lc_all ns PyData.str (fun n => encP (n, 1 + (i : Int))) (fun n Y N hn k => ?_) ⟨_, rfl, ?_⟩⟩
        · walk_at "dl"
          exact ⟨rfl, sz2, k⟩
        · have e : (ns.map fun n => (n, 1 + (i : Int))).map encP = ns.map fun n => encP (n, 1 + (i : Int)) := by rw [List.map_map] <;> rfl
          have k : Y (.tuple ((ns.map fun n => (n, 1 + (i : Int))).map encP)) := k
          rw [e] at k
          exact k
      · have e : (List.range lss0.length).map (fun (i : Nat) => encL (ns.map fun n => (n, 1 + (i : Int)))) = ((List.range lss0.length).map fun (i : Nat) => (ns.map fun n => (n, 1 + (i : Int)) : Lab)).map encL := by rw [List.map_map] <;> rfl
        rw [e]
        refine k _ ⟨_, rfl, by rw [List.length_map, List.length_range]; exact hl0, fun ls hls => ?_⟩
        obtain ⟨i, hi, e⟩ := List.mem_map.mp hls
        have hi := List.mem_range.mp hi
        subst e
        refine ⟨⟨?_, fun p hp => ?_⟩, fun p hp => ?_, fun p hp => ?_⟩
        · rw [List.map_map]
          have e : ns.map ((fun p : Str × Int => p.1) ∘ fun n => (n, 1 + (i : Int))) = ns := (List.map_congr_left fun n _ => rfl).trans (List.map_id ns)
          rw [e]; exact hn.nd
        · obtain ⟨n, hm, e⟩ := List.mem_map.mp hp
          rw [← e]; exact hn.u8 n hm
        · obtain ⟨n, hm, e⟩ := List.mem_map.mp hp
          rw [← e]; show -100 ≤ 1 + (i : Int); omega
        · obtain ⟨n, hm, e⟩ := List.mem_map.mp hp
          rw [← e]; show 1 + (i : Int) ≤ 100; omega
    obtain ⟨lss, rfl, hl, h8⟩ := hJ
    refine seq_any (fun ρ => ∃ x5 x6 x7, ρ = [.un, .heap, .dat (.int i), .dat (.list (ns.map .str)), .dat (.list (lss.map encL)), x5, x6, x7, .un, .un, .un, .un]) (fun N k => ?_) fun ρ hJ => ?_
    · refine ⟨3, rfl, by omega, by omega, for_inv (List.range _) (fun i => PyData.int (i : Nat)) (fun pre ρ => ∃ x5 x6 x7, ρ = [.un, .heap, .dat (.int i), .dat (.list (ns.map .str)), .dat (.list (lss.map encL)), x5, x6, x7, .un, .un, .un, .un]) ⟨_, _, _, rfl⟩ (fun pre j post ρ' N er hJ k => ?_) k⟩
      obtain ⟨x5, x6, x7, rfl⟩ := hJ
      walk_at "dl"
      have n8 := u8_len hn.nd hn.u8
      have nl := hn.len
      refine ⟨s1, by rw [List.length_map, sizeLine_eq]; omega, sz2, _, rfl, (show 0 < 2 by decide), (show 2 ≤ 1000 by decide), fun x hx => ?_⟩
      have hx2 : ∃ d : Nat, x = .int d ∧ d ≤ 2 := by
        simp only [List.mem_cons, List.not_mem_nil, or_false] at hx
        rcases hx with e | e
        · exact ⟨1, e, by omega⟩
        · exact ⟨2, e, by omega⟩
      obtain ⟨d, rfl, hd⟩ := hx2
      have hsh : ∀ n ∈ ns ++ [("x" : Str)], Sh n := fun n hm => by
        rcases List.mem_append.mp hm with hm | hm
        · exact sh_name (.inl (hn.u8 n hm))
        · exact sh_name (.inr (List.mem_singleton.mp hm))
      refine ⟨ns ++ [("x" : Str)], 5, d, by rw [List.map_append] <;> rfl, by omega, by rw [List.length_append]; simp, by rw [List.length_append]; simp; omega, by omega, by omega, fun f hf => ⟨sz2, ?_⟩⟩
      have hf4 : Gn (ns ++ [("x" : Str)]) 4 f := by
        have := gn_add hf (4 - 2 * d)
        rwa [show 2 * d + (4 - 2 * d) = 4 by omega] at this
      refine shown_ok hsh hf4 (by omega) h8 _ ?_
      refine ⟨f, lss, rfl, hf4.wf fun n hm => (hsh n hm).ok, by have := hf4.dep; show f.dep + 1 < 16; omega, by omega, h8, true, rfl, fun z => (nomatch z), fun _ => ⟨sz2, ?_⟩⟩
      refine shown_ok hsh hf4 (by omega) h8 _ ?_
      refine ⟨_, _, rfl, rfl, ?_⟩
      rw [beq_self_eq_true]
      exact ⟨_, rfl, fun z => (nomatch z), fun _ => k _ ⟨_, _, _, rfl⟩⟩
    obtain ⟨x5, x6, x7, rfl⟩ := hJ
    refine ⟨2, rfl, by omega, by omega, for_inv (List.range _) (fun i => PyData.int (i : Nat)) (fun pre ρ => ∃ x5 x6 x7, ρ = [.un, .heap, .dat (.int i), .dat (.list (ns.map .str)), .dat (.list (lss.map encL)), x5, x6, x7, .un, .un, .un, .un]) ⟨_, _, _, rfl⟩ (fun pre j post ρ' N er hJ k => ?_) fun ρ' hJ => ?_⟩
    · obtain ⟨x5, x6, x7, rfl⟩ := hJ
      walk_at "dl"
      exact ⟨rfl, true, rfl, fun z => (nomatch z), fun _ => k _ ⟨_, _, _, rfl⟩⟩
    · obtain ⟨x5, x6, x7, rfl⟩ := hJ
      exact k _ ⟨_, _, _, _, _, _, rfl⟩
  obtain ⟨x2, x3, x4, x5, x6, x7, rfl⟩ := hJ
  have cp : CPow 10 9 := ⟨by decide, by decide, by decide⟩
  refine seq_any (fun ρ => ρ = [.un, .heap, x2, x3, x4, x5, x6, x7, .dat (encT 400 farR), .un, .un, .un]) (fun N k => ?_) fun ρ hJ => ?_
  · walk_at "dl"
    exact ⟨cp, cp, s4, s4, sz2, sz2, k _ rfl⟩
  subst hJ
  refine seq_any (fun ρ => ρ = [.un, .heap, x2, x3, x4, x5, x6, x7, .dat (encT 400 farR), .un, .un, .un]) (fun N k => ?_) fun ρ hJ => ?_
  · walk_at "dl"
    refine ⟨s4, ver_is (f := .rng "size" 7 7) (v := .some) (by simp only [Fil.enc]) (by simp only [Fil.wf]; exact ⟨so_size, by omega⟩) (by decide +kernel) rok_far (by decide +kernel) ?_⟩
    refine word_same .some ⟨s4, ver_is (f := .rng "tall" 5 9) (v := .all) (by simp only [Fil.enc]) (by simp only [Fil.wf]; exact ⟨so_tall', by omega⟩) (by decide +kernel) rok_far (by decide +kernel) ?_⟩
    refine word_same .all ⟨sz2, ver_is (f := .has "size") (v := .some) (by simp only [Fil.enc]) (by simp only [Fil.wf]; exact so_size) (by decide +kernel) rok_far (by decide +kernel) ?_⟩
    exact word_same .some (k _ rfl)
  subst hJ
  refine seq_any (fun ρ => ρ = [.un, .heap, x2, x3, x4, x5, x6, x7, .dat (encT 400 farR), .dat (encT 2 nearR), .un, .un]) (fun N k => ?_) fun ρ hJ => ?_
  · walk_at "dl"
    exact ⟨s4, s4, sz2, sz2, k _ rfl⟩
  subst hJ
  refine seq_any (fun ρ => ρ = [.un, .heap, x2, x3, x4, x5, x6, x7, .dat (encT 400 farR), .dat (encT 2 nearR), .un, .un]) (fun N k => ?_) fun ρ hJ => ?_
  · walk_at "dl"
    refine ⟨s4, ver_is (f := .rng "size" 4 8) (v := .none) (by simp only [Fil.enc]) (by simp only [Fil.wf]; exact ⟨so_size, by omega⟩) (by decide +kernel) rok_near (by decide +kernel) ?_⟩
    refine word_same .none ⟨s4, ver_is (f := .rng "size" 4 9) (v := .some) (by simp only [Fil.enc]) (by simp only [Fil.wf]; exact ⟨so_size, by omega⟩) (by decide +kernel) rok_near (by decide +kernel) ?_⟩
    refine word_same .some ⟨s1, Nat.zero_le _, sz2, ver_is (f := .all) (c := 0) (rs := []) (v := .none) (by simp only [Fil.enc]) (by simp only [Fil.wf]) (by decide +kernel) rok_nil (by decide +kernel) ?_⟩
    exact word_same .none (k _ rfl)
  subst hJ
  walk_at "dl"
  have w1 : (Fil.con [.has "tall", .neg (.has "tall")]).wf := by simp only [Fil.wf, Fil.wfs]; exact ⟨by decide, so_tall', so_tall', trivial⟩
  refine ⟨sz2, sz2, sz2, sz3, .con [.has "tall", .neg (.has "tall")], 2, nearR, by simp only [Fil.enc, Fil.encs], w1, by decide +kernel, rok_near, _, rfl, fun _ => ⟨s1, sz2, Nat.zero_le _, sz2, .neg .all, 0, [], by simp only [Fil.enc]; rfl, by simp only [Fil.wf], by decide +kernel, rok_nil, _, rfl, fun _ => ⟨s1, Nat.zero_le _, sz2, .all, 0, [], by simp only [Fil.enc]; rfl, by simp only [Fil.wf], by decide +kernel, rok_nil, _, rfl, ?_⟩, fun z => absurd z (by decide +kernel)⟩, fun z => absurd z (by decide +kernel)⟩
  have e : decide (verd 0 [] .all ≠ .none) = false := by decide +kernel
  rw [e]
  exact p
end D8
namespace D8
open PySem PySem.Spec PyProof.Rows L2

/-! ### the law's def from its entry -/
abbrev tLaw (K : PySem.W.Frag) : TS := t_law K S_law_names S_law_draw S_law_pick S_law_labels (S_law_sieve 3) S_law_filter_right S_law_rows_right (S_verdict N8) (S_may_pass N8) (S_must_pass N8)
theorem head_read {K : PySem.W.Frag} {σ : L2.St} {H : Hp} {a : Addr} {zs : List V} (h0 : σ[0]? = some (some (.ref a))) (hS : SqL K H a zs) (R : List V → Hp → Prop) (q : R [.int (1 + (if decide ((1 : Int) < (zs.length : Int)) = true then 1 else 0))] H) : th_law K σ H R :=
  ⟨_, h0, a, zs, rfl, .inl hS, _, _, rfl, rfl, .inr ⟨_, rfl, _, _, rfl, rfl, q⟩⟩
theorem tr_swap {K : PySem.W.Frag} {th th' : TA} {S1 S2 S3 S4 S5 S6 S7 S8' S9 S10 : S8} {D : Ends} {σ : L2.St} {H : Hp} (h : ∀ R : List V → Hp → Prop, th' σ H R → th σ H R) (q : tr_law K th' S1 S2 S3 S4 S5 S6 S7 S8' S9 S10 D σ H) : tr_law K th S1 S2 S3 S4 S5 S6 S7 S8' S9 S10 D σ H := by
  unfold tr_law at q ⊢
  exact h _ q
theorem run_law {K : PySem.W.Frag} {a : Addr} {zs : List Int} {H : Hp} {Q : VK} (hS : SqL K H a (zs.map V.int)) (hl : zs.length ≤ 63) (q : ∀ H', Q (.bl true) H') : tLaw K { nx := fun _ H' => Q .non H', rt := Q } (L2.start N_law [.ref a]) H := by
  refine ⟨.ref a, rfl, a, zs, rfl, hS, hl, fun p c H' ex hp hc hsrc => ?_⟩
  have hS' := sqE ex hS
  let σ : L2.St := (L2.start N_law [.ref a]).set 1 (some (.ref p))
  have go : ∀ j : Nat, j ≤ 2 → (∀ R : List V → Hp → Prop, R [.int j] H' → th_law K σ H' R) → tr_law K (th_law K) S_law_names S_law_draw S_law_pick S_law_labels (S_law_sieve 3) S_law_filter_right S_law_rows_right (S_verdict N8) (S_may_pass N8) (S_must_pass N8) { nx := fun _ H' => Q .non H', rt := Q } σ H' := fun j hj hh => by
    let F : Fr8 := { m := fun _ => none, H0 := H', hp := some (p, c), pins := [] }
    let ρ : List Sl := [.un, .heap, .un, .un, .un, .un, .un, .un, .un, .un, .un, .un]
    have get : ∀ {i : Nat} {x : Sl}, ρ[i]? = some x → (i = 1 ∧ x = .heap) ∨ x = .un := fun {i x} e => by
      have key : ∀ y ∈ ρ, y = .heap ∨ y = .un := by
        intro y hy
        simp only [ρ, List.mem_cons, List.not_mem_nil, or_false] at hy
        rcases hy with e | e | e | e | e | e | e | e | e | e | e | e <;> simp [e]
      by_cases h1 : i = 1
      · subst h1
        cases e
        exact .inl ⟨rfl, rfl⟩
      · rcases key x (List.mem_of_getElem? e) with z | z
        · subst z
          exfalso
          have hi : i < 12 := by
            have := (List.getElem?_eq_some_iff.mp e).1
            exact this
          have : i = 0 ∨ i = 2 ∨ i = 3 ∨ i = 4 ∨ i = 5 ∨ i = 6 ∨ i = 7 ∨ i = 8 ∨ i = 9 ∨ i = 10 ∨ i = 11 := by omega
          rcases this with h | h | h | h | h | h | h | h | h | h | h <;> subst h <;> cases e
        · exact .inr z
    have noO : ∀ b, ¬ OwnsAt σ ρ b := fun b ⟨i, es, e1, _⟩ => by rcases get e1 with ⟨_, z⟩ | z <;> cases z
    have s0 : St8 F ρ σ H' := by
      refine ⟨rfl, fun x y e => (by cases e; exact hsrc), fun b o e => (by cases e), fun b z => absurd z (noO b), fun b _ => rfl, fun i j b di dj e1 => ?_, fun b z => absurd z (noO b), fun b o _ e => e, fun i d e => ?_, fun i es e => ?_, fun i e => ?_, fun q hq => (by cases hq)⟩
      · rcases get e1 with ⟨_, z⟩ | z <;> cases z
      · rcases get e with ⟨_, z⟩ | z <;> cases z
      · rcases get e with ⟨_, z⟩ | z <;> cases z
      · rcases get e with ⟨z, _⟩ | z
        · subst z; exact ⟨p, c, rfl, rfl⟩
        · cases z
    have done := snd_law (K := K) (th := tCons (tC (.int j)) tNil) (wh := wCons (wC (.int j)) wNil) (snd_cons (snd_int _) snd_nil) F ρ σ H' { nx := fun _ H' => Q .non H', rt := Q } { nx := fun _ => False, rt := fun d => d = .bool true } (law_law j hj (fun d => d = .bool true) rfl) s0
      ⟨fun ρ σ H' p s => p.elim, fun ρ σ H' v d e s hd => by subst e; cases hd; exact q H', fun ρ σ H' p s => p.elim, fun ρ σ H' p s => p.elim⟩
    exact tr_swap (th' := tCons (tC (.int j)) tNil) (fun R r => hh R r) done
  by_cases h2 : (1 : Int) < ((zs.map V.int).length : Nat)
  · refine go 2 (by omega) fun R r => head_read rfl hS' R ?_
    rw [decide_eq_true h2]
    exact r
  · refine go 1 (by omega) fun R r => head_read rfl hS' R ?_
    rw [decide_eq_false h2]
    exact r
end D8
namespace D8
open PySem PySem.Spec PyProof.Rows L2

/-! ### a def of the module's top, and how it is called -/
def Def (K : PySem.W.Frag) (mg : Str → Option Value) (x : Str) (st : Stmt) : Prop := ∃ (f : Addr) (fd : FuncData), Fun K x x st f fd ∧ mg x = some (.ref f)
section
variable {P : Program} {w : World} {K : PySem.W.Frag} {mg : Str → Option Value} {base : Heap}
theorem mk_cal {x : Str} {st : Stmt} {ps : List Str} {k : Nat} {sp : Sp} (D : Def K mg x st)
    (b : ∀ (kV doc pm : Value) (an : Option Addr) (cdv ct : Value) (us : List Value), us.length = ps.length → bindArgs (PySem.W.fnOf x x (defArgs st) (defBody st) (defScope st) .none kV doc pm an cdv ct) ⟨us, []⟩ = pure (ps.zip us))
    (ok : ∀ f fd, Fun K x x st f fd → FnOk P w K mg base CX0 k f fd ps sp) : Cal P w K mg base x ps k sp := by
  obtain ⟨f, fd, F, e⟩ := D
  exact ⟨f, fd, ok f fd F, e, F.kp, F.binds b⟩
theorem mk_cal2 {x a b : Str} {st : Stmt} {k : Nat} {sp : Sp} (D : Def K mg x st)
    (h : ∀ (kV doc pm : Value) (an : Option Addr) (cdv ct : Value) (u v : Value), bindArgs (PySem.W.fnOf x x (defArgs st) (defBody st) (defScope st) .none kV doc pm an cdv ct) ⟨[], [(b, v), (a, u)]⟩ = pure [(a, u), (b, v)])
    (ok : ∀ f fd, Fun K x x st f fd → FnOk P w K mg base CX0 k f fd [a, b] sp) : Cal2 P w K mg base x a b k sp := by
  obtain ⟨f, fd, F, e⟩ := D
  have ex := F.ex
  obtain ⟨oc, od, kV, doc, pm, an, cdv, ct, osl, e2, lk, hcd⟩ := ex
  refine ⟨f, fd, ok f fd F, e, F.kp, fun s u v => ?_⟩
  rw [e2]
  exact .of_eq (h kV doc pm an cdv ct u v)
theorem none_P {S : S8} {k : Nat} {f : Addr} {fd : FuncData} {ps : List Str} (h : ∀ ds P, ¬ S ds P) : FnOk P w K mg base CX0 k f fd ps (spP S) :=
  ⟨fun vs H Q E ⟨_, ds, P, _, _, q, _⟩ => (h ds P q).elim, fun A outer s H args us vs Q E _ _ _ _ ⟨_, ds, P, _, _, q, _⟩ => (h ds P q).elim⟩
theorem none_H {S : S8} {k : Nat} {f : Addr} {fd : FuncData} {ps : List Str} (h : ∀ ds P, ¬ S ds P) : FnOk P w K mg base CX0 k f fd ps (spH S) :=
  ⟨fun vs H Q E ⟨_, _, _, _, ds, P, _, _, _, _, _, _, q, _⟩ => (h ds P q).elim, fun A outer s H args us vs Q E _ _ _ _ ⟨_, _, _, _, ds, P, _, _, _, _, _, _, q, _⟩ => (h ds P q).elim⟩
end
structure Tops (K : PySem.W.Frag) (mg : Str → Option Value) : Prop where
  f_label_in : Def K mg "label_in" s_label_in
  f_row_of_name : Def K mg "row_of_name" s_row_of_name
  f_opposite_verdict : Def K mg "opposite_verdict" s_opposite_verdict
  f_verdict_of_all : Def K mg "verdict_of_all" s_verdict_of_all
  f_range_verdict : Def K mg "range_verdict" s_range_verdict
  f_row_joined : Def K mg "row_joined" s_row_joined
  f_joined_summary : Def K mg "joined_summary" s_joined_summary
  f_summary : Def K mg "summary" s_summary
  f_example_labels : Def K mg "example_labels" s_example_labels
  f_verdict : Def K mg "verdict" s_verdict
  f_may_pass : Def K mg "may_pass" s_may_pass
  f_must_pass : Def K mg "must_pass" s_must_pass
  f_lets_by : Def K mg "lets_by" s_lets_by
  f_passes : Def K mg "passes" s_passes
  f_law_heap : Def K mg "_law_heap" s_law_heap
  f_law_draw : Def K mg "_law_draw" s_law_draw
  f_law_mixed : Def K mg "_law_mixed" s_law_mixed
  f_law_pick : Def K mg "_law_pick" s_law_pick
  f_law_names : Def K mg "_law_names" s_law_names
  f_law_single : Def K mg "_law_single" s_law_single
  f_law_sieve : Def K mg "_law_sieve" s_law_sieve
  f_law_lets : Def K mg "_law_lets" s_law_lets
  f_law_labels : Def K mg "_law_labels" s_law_labels
  f_law_lists : Def K mg "_law_lists" s_law_lists
  f_law_columns : Def K mg "_law_columns" s_law_columns
  f_law_single_due : Def K mg "_law_single_due" s_law_single_due
  f_law_due : Def K mg "_law_due" s_law_due
  f_law_summary : Def K mg "_law_summary" s_law_summary
  f_law_told_right : Def K mg "_law_told_right" s_law_told_right
  f_law_filter_right : Def K mg "_law_filter_right" s_law_filter_right
  f_law_rows_right : Def K mg "_law_rows_right" s_law_rows_right
section
variable {P : Program} {w : World} {K : PySem.W.Frag} {mg : Str → Option Value} {base : Heap} (T : Tops K mg) (bi : Bi mg)
include T bi
theorem c_label_in : Cal P w K mg base "label_in" ["labels", "name"] 1 (spP S_label_in) :=
  mk_cal T.f_label_in (fun _ _ _ _ _ _ us hl => match us, hl with | [_, _], _ => rfl) fun f fd F => ok_label_in (k := 0) F bi  (fun ds P ⟨_, _, e, _⟩ => by rw [e] <;> rfl) (law_label_in)
theorem c_row_of_name : Cal P w K mg base "row_of_name" ["told", "name"] 1 (spP S_row_of_name) :=
  mk_cal T.f_row_of_name (fun _ _ _ _ _ _ us hl => match us, hl with | [_, _], _ => rfl) fun f fd F => ok_row_of_name (k := 0) F bi  (fun ds P ⟨_, _, _, e, _⟩ => by rw [e] <;> rfl) (law_row_of_name)
theorem c_opposite_verdict : Cal P w K mg base "opposite_verdict" ["word"] 1 (spP S_opposite_verdict) :=
  mk_cal T.f_opposite_verdict (fun _ _ _ _ _ _ us hl => match us, hl with | [_], _ => rfl) fun f fd F => ok_opposite_verdict (k := 0) F bi  (fun ds P ⟨_, e, _⟩ => by rw [e] <;> rfl) (law_opposite_verdict)
theorem c_verdict_of_all : Cal P w K mg base "verdict_of_all" ["words"] 1 (spP S_verdict_of_all) :=
  mk_cal T.f_verdict_of_all (fun _ _ _ _ _ _ us hl => match us, hl with | [_], _ => rfl) fun f fd F => ok_verdict_of_all (k := 0) F bi  (fun ds P ⟨_, e, _⟩ => by rw [e] <;> rfl) (law_verdict_of_all)
theorem c_range_verdict : Cal P w K mg base "range_verdict" ["sieve", "row", "count"] 1 (spP S_range_verdict) :=
  mk_cal T.f_range_verdict (fun _ _ _ _ _ _ us hl => match us, hl with | [_, _, _], _ => rfl) fun f fd F => ok_range_verdict (k := 0) F bi  (fun ds P ⟨_, _, _, _, _, e, _⟩ => by rw [e] <;> rfl) (law_range_verdict)
theorem c_row_joined : Cal P w K mg base "row_joined" ["one", "other"] 1 (spP S_row_joined) :=
  mk_cal T.f_row_joined (fun _ _ _ _ _ _ us hl => match us, hl with | [_, _], _ => rfl) fun f fd F => ok_row_joined (k := 0) F bi  (fun ds P ⟨_, _, e, _⟩ => by rw [e] <;> rfl) (law_row_joined)
theorem c_joined_summary : Cal P w K mg base "joined_summary" ["one", "other"] 2 (spP S_joined_summary) :=
  mk_cal T.f_joined_summary (fun _ _ _ _ _ _ us hl => match us, hl with | [_, _], _ => rfl) fun f fd F => ok_joined_summary (k := 1) F bi ((c_row_joined T bi).mono (by omega)) (fun ds P ⟨_, _, _, _, e, _⟩ => by rw [e] <;> rfl) (law_joined_summary)
theorem c_summary : Cal P w K mg base "summary" ["items"] 3 (spP S_summary) :=
  mk_cal T.f_summary (fun _ _ _ _ _ _ us hl => match us, hl with | [_], _ => rfl) fun f fd F => ok_summary (k := 2) F bi ((c_joined_summary T bi).mono (by omega)) (fun ds P ⟨_, e, _⟩ => by rw [e] <;> rfl) (law_summary)
theorem c_example_labels : Cal P w K mg base "example_labels" ["told"] 1 (spP S_example_labels) :=
  mk_cal T.f_example_labels (fun _ _ _ _ _ _ us hl => match us, hl with | [_], _ => rfl) fun f fd F => ok_example_labels (k := 0) F bi  (fun ds P ⟨_, _, e, _⟩ => by rw [e] <;> rfl) (law_example_labels)
theorem c_verdict_at : ∀ n : Nat, Cal P w K mg base "verdict" ["sieve", "told"] (n + 2) (spP (S_verdict n))
  | 0 => mk_cal T.f_verdict (fun _ _ _ _ _ _ us hl => match us, hl with | [_, _], _ => rfl) fun f fd F => none_P fun ds P ⟨_, _, _, _, _, h, _⟩ => Nat.not_lt_zero _ h
  | n + 1 => by
    have ih := c_verdict_at n
    exact mk_cal T.f_verdict (fun _ _ _ _ _ _ us hl => match us, hl with | [_, _], _ => rfl) fun f fd F => (ok_verdict F bi ((c_opposite_verdict T bi).mono (by omega)) ih ((c_verdict_of_all T bi).mono (by omega)) ((c_row_of_name T bi).mono (by omega)) ((c_range_verdict T bi).mono (by omega)) (fun ds P ⟨_, _, _, e, _⟩ => by rw [e] <;> rfl) (law_verdict n)).mono (by omega)
theorem c_verdict : Cal P w K mg base "verdict" ["sieve", "told"] 18 (spP (S_verdict N8)) := c_verdict_at T bi N8
theorem d_verdict (k : Nat) (hk : 18 ≤ k) : Cal2 P w K mg base "verdict" "sieve" "told" k (spP (S_verdict N8)) := by
  have ih := c_verdict_at (P := P) (w := w) (base := base) T bi 15
  exact mk_cal2 T.f_verdict (fun _ _ _ _ _ _ u v => rfl) fun f fd F => (ok_verdict (k := 17) F bi ((c_opposite_verdict T bi).mono (by omega)) ih ((c_verdict_of_all T bi).mono (by omega)) ((c_row_of_name T bi).mono (by omega)) ((c_range_verdict T bi).mono (by omega)) (fun ds P ⟨_, _, _, e, _⟩ => by rw [e] <;> rfl) (law_verdict 15)).mono hk
theorem c_may_pass : Cal P w K mg base "may_pass" ["sieve", "told"] 19 (spP (S_may_pass N8)) :=
  mk_cal T.f_may_pass (fun _ _ _ _ _ _ us hl => match us, hl with | [_, _], _ => rfl) fun f fd F => ok_may_pass (k := 18) F bi ((c_verdict T bi).mono (by omega)) (fun ds P ⟨_, _, _, e, _⟩ => by rw [e] <;> rfl) (law_may_pass N8)
theorem d_may_pass (k : Nat) (hk : 19 ≤ k) : Cal2 P w K mg base "may_pass" "sieve" "told" k (spP (S_may_pass N8)) :=
  mk_cal2 T.f_may_pass (fun _ _ _ _ _ _ u v => rfl) fun f fd F => (ok_may_pass (k := 18) F bi ((c_verdict T bi).mono (by omega)) (fun ds P ⟨_, _, _, e, _⟩ => by rw [e] <;> rfl) (law_may_pass N8)).mono hk
theorem c_must_pass : Cal P w K mg base "must_pass" ["sieve", "told"] 19 (spP (S_must_pass N8)) :=
  mk_cal T.f_must_pass (fun _ _ _ _ _ _ us hl => match us, hl with | [_, _], _ => rfl) fun f fd F => ok_must_pass (k := 18) F bi ((c_verdict T bi).mono (by omega)) (fun ds P ⟨_, _, _, e, _⟩ => by rw [e] <;> rfl) (law_must_pass N8)
theorem d_must_pass (k : Nat) (hk : 19 ≤ k) : Cal2 P w K mg base "must_pass" "sieve" "told" k (spP (S_must_pass N8)) :=
  mk_cal2 T.f_must_pass (fun _ _ _ _ _ _ u v => rfl) fun f fd F => (ok_must_pass (k := 18) F bi ((c_verdict T bi).mono (by omega)) (fun ds P ⟨_, _, _, e, _⟩ => by rw [e] <;> rfl) (law_must_pass N8)).mono hk
theorem c_lets_by_at : ∀ n : Nat, Cal P w K mg base "lets_by" ["sieve", "labels"] (n + 2) (spP (S_lets_by n))
  | 0 => mk_cal T.f_lets_by (fun _ _ _ _ _ _ us hl => match us, hl with | [_, _], _ => rfl) fun f fd F => none_P fun ds P ⟨_, _, _, _, h, _⟩ => Nat.not_lt_zero _ h
  | n + 1 => by
    have ih := c_lets_by_at n
    exact mk_cal T.f_lets_by (fun _ _ _ _ _ _ us hl => match us, hl with | [_, _], _ => rfl) fun f fd F => (ok_lets_by F bi ih ((c_label_in T bi).mono (by omega)) (fun ds P ⟨_, _, e, _⟩ => by rw [e] <;> rfl) (law_lets_by n)).mono (by omega)
theorem c_lets_by : Cal P w K mg base "lets_by" ["sieve", "labels"] 18 (spP (S_lets_by N8)) := c_lets_by_at T bi N8
theorem c_passes : Cal P w K mg base "passes" ["sieve", "item"] 19 (spP (S_passes N8)) :=
  mk_cal T.f_passes (fun _ _ _ _ _ _ us hl => match us, hl with | [_, _], _ => rfl) fun f fd F => ok_passes (k := 18) F bi ((c_lets_by T bi).mono (by omega)) (fun ds P ⟨_, _, _, _, e, _⟩ => by rw [e] <;> rfl) (law_passes N8)
theorem c_law_heap : Cal P w K mg base "_law_heap" ["_law_script"] 1 (spHeap K) :=
  mk_cal T.f_law_heap (fun _ _ _ _ _ _ us hl => match us, hl with | [_], _ => rfl) fun f fd F => ok_law_heap F bi (fun vs H Q E ⟨_, _, e, _⟩ => by rw [e] <;> rfl) hb_heap
theorem c_law_draw : Cal P w K mg base "_law_draw" ["_law_heap_here", "_law_many"] 1 (spH S_law_draw) :=
  mk_cal T.f_law_draw (fun _ _ _ _ _ _ us hl => match us, hl with | [_, _], _ => rfl) fun f fd F => ok_law_draw (k := 0) F bi  (len_H (fun ds P ⟨_, e, _⟩ => by rw [e] <;> rfl)) hb_draw
theorem c_law_mixed : Cal P w K mg base "_law_mixed" ["_law_heap_here", "_law_some"] 2 (spH S_law_mixed) :=
  mk_cal T.f_law_mixed (fun _ _ _ _ _ _ us hl => match us, hl with | [_, _], _ => rfl) fun f fd F => ok_law_mixed (k := 1) F bi ((c_law_draw T bi).mono (by omega)) (len_H (fun ds P ⟨_, e, _⟩ => by rw [e] <;> rfl)) hb_mixed
theorem c_law_pick : Cal P w K mg base "_law_pick" ["_law_heap_here", "_law_some"] 2 (spH S_law_pick) :=
  mk_cal T.f_law_pick (fun _ _ _ _ _ _ us hl => match us, hl with | [_, _], _ => rfl) fun f fd F => ok_law_pick (k := 1) F bi ((c_law_draw T bi).mono (by omega)) (fun ds P ⟨_, e, _⟩ => by rw [e] <;> rfl) (law_law_pick)
theorem c_law_names : Cal P w K mg base "_law_names" ["_law_heap_here", "_law_many"] 3 (spH S_law_names) :=
  mk_cal T.f_law_names (fun _ _ _ _ _ _ us hl => match us, hl with | [_, _], _ => rfl) fun f fd F => ok_law_names (k := 2) F bi ((c_law_mixed T bi).mono (by omega)) (fun ds P ⟨_, e, _⟩ => by rw [e] <;> rfl) (law_law_names)
theorem c_law_single : Cal P w K mg base "_law_single" ["_law_heap_here", "_law_names_here", "_law_span"] 3 (spH S_law_single) :=
  mk_cal T.f_law_single (fun _ _ _ _ _ _ us hl => match us, hl with | [_, _, _], _ => rfl) fun f fd F => ok_law_single (k := 2) F bi ((c_law_pick T bi).mono (by omega)) ((c_law_draw T bi).mono (by omega)) (fun ds P ⟨_, _, e, _⟩ => by rw [e] <;> rfl) (law_law_single)
theorem c_law_sieve_at : ∀ n : Nat, Cal P w K mg base "_law_sieve" ["_law_heap_here", "_law_names_here", "_law_span", "_law_depth"] (n + 4) (spH (S_law_sieve n))
  | 0 => mk_cal T.f_law_sieve (fun _ _ _ _ _ _ us hl => match us, hl with | [_, _, _, _], _ => rfl) fun f fd F => none_H fun ds P ⟨_, _, _, _, h, _⟩ => Nat.not_lt_zero _ h
  | n + 1 => by
    have ih := c_law_sieve_at n
    exact mk_cal T.f_law_sieve (fun _ _ _ _ _ _ us hl => match us, hl with | [_, _, _, _], _ => rfl) fun f fd F => (ok_law_sieve F bi ((c_law_pick T bi).mono (by omega)) ((c_law_draw T bi).mono (by omega)) ((c_law_single T bi).mono (by omega)) ih (fun ds P ⟨_, _, _, e, _⟩ => by rw [e] <;> rfl) (law_law_sieve n)).mono (by omega)
theorem c_law_sieve : Cal P w K mg base "_law_sieve" ["_law_heap_here", "_law_names_here", "_law_span", "_law_depth"] 7 (spH (S_law_sieve 3)) := c_law_sieve_at T bi 3
theorem c_law_lets_at : ∀ n : Nat, Cal P w K mg base "_law_lets" ["_law_sieve_here", "_law_labels_here"] (n + 2) (spP (S_law_lets n))
  | 0 => mk_cal T.f_law_lets (fun _ _ _ _ _ _ us hl => match us, hl with | [_, _], _ => rfl) fun f fd F => none_P fun ds P ⟨_, _, _, _, h, _⟩ => Nat.not_lt_zero _ h
  | n + 1 => by
    have ih := c_law_lets_at n
    exact mk_cal T.f_law_lets (fun _ _ _ _ _ _ us hl => match us, hl with | [_, _], _ => rfl) fun f fd F => (ok_law_lets F bi ih (fun ds P ⟨_, _, e, _⟩ => by rw [e] <;> rfl) (law_law_lets n)).mono (by omega)
theorem c_law_lets : Cal P w K mg base "_law_lets" ["_law_sieve_here", "_law_labels_here"] 18 (spP (S_law_lets N8)) := c_law_lets_at T bi N8
theorem c_law_labels : Cal P w K mg base "_law_labels" ["_law_heap_here", "_law_names_here", "_law_span"] 2 (spH S_law_labels) :=
  mk_cal T.f_law_labels (fun _ _ _ _ _ _ us hl => match us, hl with | [_, _, _], _ => rfl) fun f fd F => ok_law_labels (k := 1) F bi ((c_law_draw T bi).mono (by omega)) (fun ds P ⟨_, _, e, _⟩ => by rw [e] <;> rfl) (law_law_labels)
theorem c_law_lists : Cal P w K mg base "_law_lists" ["_law_values", "_law_many"] 1 (spP S_law_lists) :=
  mk_cal T.f_law_lists (fun _ _ _ _ _ _ us hl => match us, hl with | [_, _], _ => rfl) fun f fd F => ok_law_lists (k := 0) F bi  (fun ds P ⟨_, _, e, _⟩ => by rw [e] <;> rfl) (law_law_lists)
theorem c_law_columns : Cal P w K mg base "_law_columns" ["_law_told", "_law_name"] 2 (spP S_law_columns) :=
  mk_cal T.f_law_columns (fun _ _ _ _ _ _ us hl => match us, hl with | [_, _], _ => rfl) fun f fd F => ok_law_columns (k := 1) F bi ((c_law_lists T bi).mono (by omega)) (fun ds P ⟨_, _, _, e, _⟩ => by rw [e] <;> rfl) (law_law_columns)
theorem c_law_single_due : Cal P w K mg base "_law_single_due" ["_law_sieve_here", "_law_told"] 3 (spP S_law_single_due) :=
  mk_cal T.f_law_single_due (fun _ _ _ _ _ _ us hl => match us, hl with | [_, _], _ => rfl) fun f fd F => ok_law_single_due (k := 2) F bi ((c_law_columns T bi).mono (by omega)) (fun ds P ⟨_, _, _, _, e, _⟩ => by rw [e] <;> rfl) (law_law_single_due)
theorem c_law_due_at : ∀ n : Nat, Cal P w K mg base "_law_due" ["_law_sieve_here", "_law_told"] (n + 4) (spP (S_law_due n))
  | 0 => mk_cal T.f_law_due (fun _ _ _ _ _ _ us hl => match us, hl with | [_, _], _ => rfl) fun f fd F => none_P fun ds P ⟨_, _, _, _, _, h, _⟩ => Nat.not_lt_zero _ h
  | n + 1 => by
    have ih := c_law_due_at n
    exact mk_cal T.f_law_due (fun _ _ _ _ _ _ us hl => match us, hl with | [_, _], _ => rfl) fun f fd F => (ok_law_due F bi ((c_law_single_due T bi).mono (by omega)) ih (fun ds P ⟨_, _, _, e, _⟩ => by rw [e] <;> rfl) (law_law_due n)).mono (by omega)
theorem c_law_due : Cal P w K mg base "_law_due" ["_law_sieve_here", "_law_told"] 20 (spP (S_law_due N8)) := c_law_due_at T bi N8
theorem c_law_summary : Cal P w K mg base "_law_summary" ["_law_labels_here"] 1 (spP S_law_summary) :=
  mk_cal T.f_law_summary (fun _ _ _ _ _ _ us hl => match us, hl with | [_], _ => rfl) fun f fd F => ok_law_summary (k := 0) F bi  (fun ds P ⟨_, e, _⟩ => by rw [e] <;> rfl) (law_law_summary)
theorem c_law_told_right : Cal P w K mg base "_law_told_right" ["_law_sieve_here", "_law_told", "_law_labels_here"] 20 (spP S_law_told_right) :=
  mk_cal T.f_law_told_right (fun _ _ _ _ _ _ us hl => match us, hl with | [_, _, _], _ => rfl) fun f fd F => ok_law_told_right (k := 19) F bi ((c_verdict T bi).mono (by omega)) ((c_may_pass T bi).mono (by omega)) ((c_must_pass T bi).mono (by omega)) ((c_law_lets T bi).mono (by omega)) ((c_passes T bi).mono (by omega)) (d_may_pass T bi 19 (by omega)) (d_must_pass T bi 19 (by omega)) (d_verdict T bi 19 (by omega)) (fun ds P ⟨_, _, _, e, _⟩ => by rw [e] <;> rfl) (law_law_told_right)
theorem c_law_filter_right : Cal P w K mg base "_law_filter_right" ["_law_heap_here", "_law_sieve_here", "_law_labels_here"] 21 (spH S_law_filter_right) :=
  mk_cal T.f_law_filter_right (fun _ _ _ _ _ _ us hl => match us, hl with | [_, _, _], _ => rfl) fun f fd F => ok_law_filter_right (k := 20) F bi ((c_law_summary T bi).mono (by omega)) ((c_summary T bi).mono (by omega)) ((c_verdict T bi).mono (by omega)) ((c_law_due T bi).mono (by omega)) ((c_law_told_right T bi).mono (by omega)) ((c_example_labels T bi).mono (by omega)) ((c_law_draw T bi).mono (by omega)) ((c_law_mixed T bi).mono (by omega)) ((c_joined_summary T bi).mono (by omega)) (fun ds P ⟨_, _, e, _⟩ => by rw [e] <;> rfl) (law_law_filter_right)
theorem c_law_rows_right : Cal P w K mg base "_law_rows_right" ["_law_heap_here"] 19 (spH S_law_rows_right) :=
  mk_cal T.f_law_rows_right (fun _ _ _ _ _ _ us hl => match us, hl with | [_], _ => rfl) fun f fd F => ok_law_rows_right (k := 18) F bi ((c_law_draw T bi).mono (by omega)) ((c_law_single_due T bi).mono (by omega)) ((c_verdict T bi).mono (by omega)) (fun ds P ⟨e, _⟩ => by rw [e] <;> rfl) (law_law_rows_right)
end
end D8
namespace D8
open PySem PySem.Spec PyProof.Rows L2

/-! ### a def run at one caller, which is known -/
section
variable {P : Program} {w : World} {K : PySem.W.Frag} {mg : Str → Option Value} {base : Heap}
theorem fn_here {x qual : Str} {st : Stmt} {f : Addr} {fd : FuncData} {N ps : List Str} {k : Nat} {A : Around} {outer : List Env} {s : Shared} {H : Hp} {args : Args} {us : List Value} {vs : List V} {Q : VK} {E : XK} {t : TS}
    (F : Fun K x qual st f fd) (S : FnScope N ps (defScope st)) (hl : vs.length = ps.length) (hr : Room (k + 1) A) (e0 : Env0 P w K mg base A outer s H) (hb : BindsTo s fd args (ps.zip us)) (r : Vals vs us)
    (body : ∀ cdv, PSs (cxOf CX0 P w K mg base N qual (defScope st) f cdv A outer s H E).nox (defBody st) t) (q : t { nx := fun _ H' => Q .non H', rt := Q } (L2.start N vs) H) :
    codeAny (model P w) A (.call (.ref f) args) (CR CX0 outer P w H s Q E) s := by
  obtain ⟨oc, od, kV, doc, pm, an, cdv, ct, osl, rfl, lk, hcd⟩ := F.ex
  have old : ∀ {b : Addr} {o : Obj}, base.get? b = some o → s.heap.get? b = some o := fun {b o} e => (e0.bs b o e).1
  have kin : K.In s.heap := e0.mod.kin.keeps fun _ _ e => old e
  have nolim : s.heap.NoLimit := e0.mod.nolimit.keeps fun _ _ e => old e
  refine codeAny_call_function hr.depth (kin _ _ lk) rfl S.co S.gen rfl (PySem.W.codeRec_of kin hcd) (hb _ _ _ _ ?_)
  refine wpAny_newFunctionEnv_cells S.kind (fun y hy => ?_) fun env he s1 ic => ?_
  · obtain ⟨n, v⟩ := y
    have hn := (List.of_mem_zip hy).1
    cases S.par n hn with
    | inl z => exact .inl z
    | inr z => exact .inr ⟨z, PySem.W.cellsFrom_some _ _ _ (.inl z)⟩
  subst he
  refine ⟨nolim.keeps ic.toInCall.keep, codeAny_func ?_⟩
  have inv : L2.Inv (cxOf CX0 P w K mg base N qual (defScope st) f cdv A outer s H E) [] (L2.start N vs) H s1 := inv_start S hr.hd e0 hl r ic
  refine wpAny_mono ((body cdv).nox.run [] s1 (L2.start N vs) H _ inv q) (fun fl s' hs => ?_) fun e s' hs => hs
  cases fl with
  | next =>
    obtain ⟨σ', H', J, g⟩ := hs
    exact ⟨.non, H', J.os, J.bare, J.base, J.hok, rfl, g⟩
  | ret u =>
    obtain ⟨v, σ', H', J, rv, g⟩ := hs
    exact ⟨v, H', J.os, J.bare, J.base, J.hok, rv, g⟩
  | brk =>
    obtain ⟨_, _, _, g⟩ := hs
    exact g.elim
  | cont =>
    obtain ⟨_, _, _, g⟩ := hs
    exact g.elim
end
/-! ### the law's call behind the top -/
section
variable {P : Program} {w : World} {K : PySem.W.Frag} {mg mb : Str → Option Value} {fa a : Addr} {fd : FuncData} {s : Shared} {vs : List Value} {ns : List Int}
/-- with what of the script may be tracked -/
theorem law_with (T : Tops K mg) (bi : Bi mg) (F : Fun K "law" "law" s_law fa fd) (kin : K.In s.heap) (gl : s.heap.Ns mainGlobals mg) (bl : s.heap.Ns builtinsNs mb) (bb : ∀ x : Str, x ≠ "__name__" → mb x = bootBuiltins x)
    (nolim : s.heap.NoLimit) (gens : s.gens = #[]) (script : s.heap.get? a = some { cls := .type "list", data := .seq vs.toArray }) (few : ns.length ≤ 63) (H : Hp) (hS : SqL K H a (ns.map V.int)) (hok : HOk P w H s.heap)
    (only : ∀ b u, H b = some u → b = a ∧ ∃ o xs, u = .frz o (.lst xs)) (apart : ∀ u, H a = some u → K.lookup a = none) :
    codeAny (model P w) callerA (.call (.ref fa) ⟨[.ref a], []⟩) (fun r s' => r = .ok (.ret (.bool true)) ∧ OldK s.heap s'.heap ∧ s'.os = s.os ∧ AllBare s'.gens) s := by
  have free_of : ∀ {b : Addr} {o : Obj}, s.heap.get? b = some o → (∀ xs, o.data ≠ .seq xs) → H b = none := fun {b o} e nd => by
    cases q : H b with
    | none => rfl
    | some u =>
      have z := (only b u q).1
      subst z
      rw [script] at e
      cases e
      exact absurd rfl (nd _)
  have spaces : ∀ {b : Addr} {m : Str → Option Value}, s.heap.Ns b m → (hidT s.heap H).Ns b m := fun {b m} h => by
    obtain ⟨o, es, n, e, d, rest⟩ := h
    exact ⟨o, es, n, hidT_get e (free_of e fun xs z => by rw [d] at z; cases z), d, rest⟩
  have kinB : K.In (hidT s.heap H) := fun b o e => by
    refine hidT_get (kin b o e) ?_
    cases q : H b with
    | none => rfl
    | some u =>
      have z := (only b u q).1
      subst z
      rw [apart u q] at e
      cases e
  have mod : Mod K mg (hidT s.heap H) := ⟨kinB, spaces gl, ⟨mb, spaces bl, bb⟩, by obtain ⟨m, h1, h2⟩ := nolim; exact ⟨m, spaces h1, h2⟩⟩
  have e0 : Env0 P w K mg (hidT s.heap H) callerA [] s H := ⟨rfl, mod, fun b o e => of_hidT e, Nat.le_of_eq (hidT_size _ _), trivial, fun b z => (nomatch z), hok, .of_eq gens⟩
  have hr : Room 22 callerA := ⟨rfl, by decide, by decide⟩
  have binds : BindsTo s fd ⟨[.ref a], []⟩ ([("_law_script" : Str)].zip [Value.ref a]) := by
    obtain ⟨oc, od, kV, doc, pm, an, cdv, ct, osl, e2, lk, hcd⟩ := F.ex
    rw [e2]
    exact .of_eq rfl
  refine codeAny_mono (fn_here (k := 21) (us := [.ref a]) (vs := [.ref a]) (Q := fun v _ => v = .bl true) (E := fun _ _ _ => False) F sc_law rfl hr e0 binds (.cons rfl .nil) (fun cdv => pss_law (k := 21) bi ((c_law_heap T bi).mono (by omega)) ((c_law_names T bi).mono (by omega)) ((c_law_draw T bi).mono (by omega)) ((c_law_pick T bi).mono (by omega)) ((c_law_labels T bi).mono (by omega)) ((c_law_sieve T bi).mono (by omega)) ((c_law_filter_right T bi).mono (by omega)) ((c_law_rows_right T bi).mono (by omega)) ((c_verdict T bi).mono (by omega)) ((c_may_pass T bi).mono (by omega)) ((c_must_pass T bi).mono (by omega)) (hr.deeper _) rfl) (run_law hS few fun _ => rfl)) fun r s' h => ?_
  cases r with
  | error e => exact h.elim
  | ok fl =>
    cases fl with
    | ret u =>
      obtain ⟨v, H', os, bare, un, hok', rel, z⟩ := h
      have z : v = .bl true := z
      subst z
      have rel : u = Value.bool true := rel
      subst rel
      refine ⟨rfl, OldK.of_keep fun b o e => ?_, os, bare⟩
      cases q : H b with
      | none => exact un.keep b o e q (fun z => nomatch z) (fun z => nomatch z)
      | some t =>
        obtain ⟨_, ob, xs, z⟩ := only b t q
        subst z
        have now := (hok' b _ (un.frzs b ob _ q)).1
        have was := (hok b _ q).1
        rw [was] at e
        cases e
        exact now
    | next => exact False.elim h
    | brk => exact False.elim h
    | cont => exact False.elim h
end
end D8
set_option maxHeartbeats 0
namespace D8
open PySem PySem.Spec PyProof.Rows L2

/-! ### the head -/
abbrev fnAt (x : Str) (st : Stmt) : He.FnD := ⟨(x, none), x, x, defArgs st, defBody st, defScope st⟩
def fnL : List He.FnD := [fnAt "label_in" s_label_in, fnAt "row_of_name" s_row_of_name, fnAt "opposite_verdict" s_opposite_verdict, fnAt "verdict_of_all" s_verdict_of_all, fnAt "range_verdict" s_range_verdict, fnAt "row_joined" s_row_joined, fnAt "joined_summary" s_joined_summary, fnAt "summary" s_summary, fnAt "example_labels" s_example_labels, fnAt "verdict" s_verdict, fnAt "may_pass" s_may_pass, fnAt "must_pass" s_must_pass, fnAt "lets_by" s_lets_by, fnAt "passes" s_passes, fnAt "_law_heap" s_law_heap, fnAt "_law_draw" s_law_draw, fnAt "_law_mixed" s_law_mixed, fnAt "_law_pick" s_law_pick, fnAt "_law_names" s_law_names, fnAt "_law_single" s_law_single, fnAt "_law_sieve" s_law_sieve, fnAt "_law_lets" s_law_lets, fnAt "_law_labels" s_law_labels, fnAt "_law_lists" s_law_lists, fnAt "_law_columns" s_law_columns, fnAt "_law_single_due" s_law_single_due, fnAt "_law_due" s_law_due, fnAt "_law_summary" s_law_summary, fnAt "_law_told_right" s_law_told_right, fnAt "_law_filter_right" s_law_filter_right, fnAt "_law_rows_right" s_law_rows_right, fnAt "law" s_law]
def faG : List He.Fa := [.glo "label_in", .glo "row_of_name", .glo "opposite_verdict", .glo "verdict_of_all", .glo "range_verdict", .glo "row_joined", .glo "joined_summary", .glo "summary", .glo "example_labels", .glo "verdict", .glo "may_pass", .glo "must_pass", .glo "lets_by", .glo "passes", .glo "_law_heap", .glo "_law_draw", .glo "_law_mixed", .glo "_law_pick", .glo "_law_names", .glo "_law_single", .glo "_law_sieve", .glo "_law_lets", .glo "_law_labels", .glo "_law_lists", .glo "_law_columns", .glo "_law_single_due", .glo "_law_due", .glo "_law_summary", .glo "_law_told_right", .glo "_law_filter_right", .glo "_law_rows_right", .glo "law"]
def faK : List He.Fa := [.keep "label_in", .keep "row_of_name", .keep "opposite_verdict", .keep "verdict_of_all", .keep "range_verdict", .keep "row_joined", .keep "joined_summary", .keep "summary", .keep "example_labels", .keep "verdict", .keep "may_pass", .keep "must_pass", .keep "lets_by", .keep "passes", .keep "_law_heap", .keep "_law_draw", .keep "_law_mixed", .keep "_law_pick", .keep "_law_names", .keep "_law_single", .keep "_law_sieve", .keep "_law_lets", .keep "_law_labels", .keep "_law_lists", .keep "_law_columns", .keep "_law_single_due", .keep "_law_due", .keep "_law_summary", .keep "_law_told_right", .keep "_law_filter_right", .keep "_law_rows_right", .keep "law"]
def faB : List He.Fa := [.free "len", .free "min", .free "max", .free "sorted", .free "tuple", .free "list", .free "int", .free "all", .free "any", .free "abs", .free "repr", .free "set", .free "range"]
def faL : List He.Fa := faG ++ (faK ++ faB)
def others : List Str := ["label_in", "row_joined", "joined_summary", "summary", "example_labels", "row_of_name", "range_verdict", "opposite_verdict", "verdict_of_all", "verdict", "may_pass", "must_pass", "lets_by", "passes", "_law_heap", "_law_draw", "_law_pick", "_law_mixed", "_law_names", "_law_single", "_law_sieve", "_law_lets", "_law_labels", "_law_lists", "_law_columns", "_law_single_due", "_law_due", "_law_summary", "_law_told_right", "_law_filter_right", "_law_rows_right"]
abbrev theRow : PySem.W.OpenRow := PySem.W.OpenLaw.row PySem.Challenge.rw_nonearer_k08_whole_verdicts_of_summaries
abbrev hkL : PySem.W.Hook := He.hookE 4 faL fnL
def obL (s : PySem.W.SharedT) : He.Al := He.obsG 4 faL fnL (HandSHeadRun.getT s)
theorem obL_eq (s : PySem.W.SharedT) : obL s = hkL.obs s.abs := He.obsG_eq (HandSHeadRun.getT_eq s)
theorem runL (w : World) : HandSHeadRun.RunEq theRow (PySem.W.view theRow.prog [35]) hkL obL 4000 others w := by
  intro os
  kernel_rfl
section
variable {K : PySem.W.Frag} {h : Heap} {mg : Str → Option Value}
theorem def_of (X : K.In h) (G : h.Ns mainGlobals mg) {x : Str} {st : Stmt} (g : (He.Fa.glo x).ok K = true) (k : (He.Fa.keep x).ok K = true)
    (d : ∃ oc od osl kV doc pm an cdv ct, K.lookup (He.fAd K (x, none)) = some ⟨oc, od, .func (PySem.W.fnOf x x (defArgs st) (defBody st) (defScope st) .none kV doc pm an cdv ct), osl⟩ ∧ PySem.W.codeIn K cdv x = true) : Def K mg x st := by
  obtain ⟨oc, od, osl, kV, doc, pm, an, cdv, ct, l, c⟩ := d
  exact ⟨_, _, fun_mk l c (He.keep_ok k), He.glo_ok X G g⟩
theorem tops_of (X : K.In h) (G : h.Ns mainGlobals mg) (c : He.SaysE faL fnL K) : Tops K mg where
  f_label_in := def_of X G (c.fact 0 (f := .glo "label_in") rfl) (c.fact 32 (f := .keep "label_in") rfl) (c.def_ 0 (d := fnAt "label_in" s_label_in) rfl)
  f_row_of_name := def_of X G (c.fact 1 (f := .glo "row_of_name") rfl) (c.fact 33 (f := .keep "row_of_name") rfl) (c.def_ 1 (d := fnAt "row_of_name" s_row_of_name) rfl)
  f_opposite_verdict := def_of X G (c.fact 2 (f := .glo "opposite_verdict") rfl) (c.fact 34 (f := .keep "opposite_verdict") rfl) (c.def_ 2 (d := fnAt "opposite_verdict" s_opposite_verdict) rfl)
  f_verdict_of_all := def_of X G (c.fact 3 (f := .glo "verdict_of_all") rfl) (c.fact 35 (f := .keep "verdict_of_all") rfl) (c.def_ 3 (d := fnAt "verdict_of_all" s_verdict_of_all) rfl)
  f_range_verdict := def_of X G (c.fact 4 (f := .glo "range_verdict") rfl) (c.fact 36 (f := .keep "range_verdict") rfl) (c.def_ 4 (d := fnAt "range_verdict" s_range_verdict) rfl)
  f_row_joined := def_of X G (c.fact 5 (f := .glo "row_joined") rfl) (c.fact 37 (f := .keep "row_joined") rfl) (c.def_ 5 (d := fnAt "row_joined" s_row_joined) rfl)
  f_joined_summary := def_of X G (c.fact 6 (f := .glo "joined_summary") rfl) (c.fact 38 (f := .keep "joined_summary") rfl) (c.def_ 6 (d := fnAt "joined_summary" s_joined_summary) rfl)
  f_summary := def_of X G (c.fact 7 (f := .glo "summary") rfl) (c.fact 39 (f := .keep "summary") rfl) (c.def_ 7 (d := fnAt "summary" s_summary) rfl)
  f_example_labels := def_of X G (c.fact 8 (f := .glo "example_labels") rfl) (c.fact 40 (f := .keep "example_labels") rfl) (c.def_ 8 (d := fnAt "example_labels" s_example_labels) rfl)
  f_verdict := def_of X G (c.fact 9 (f := .glo "verdict") rfl) (c.fact 41 (f := .keep "verdict") rfl) (c.def_ 9 (d := fnAt "verdict" s_verdict) rfl)
  f_may_pass := def_of X G (c.fact 10 (f := .glo "may_pass") rfl) (c.fact 42 (f := .keep "may_pass") rfl) (c.def_ 10 (d := fnAt "may_pass" s_may_pass) rfl)
  f_must_pass := def_of X G (c.fact 11 (f := .glo "must_pass") rfl) (c.fact 43 (f := .keep "must_pass") rfl) (c.def_ 11 (d := fnAt "must_pass" s_must_pass) rfl)
  f_lets_by := def_of X G (c.fact 12 (f := .glo "lets_by") rfl) (c.fact 44 (f := .keep "lets_by") rfl) (c.def_ 12 (d := fnAt "lets_by" s_lets_by) rfl)
  f_passes := def_of X G (c.fact 13 (f := .glo "passes") rfl) (c.fact 45 (f := .keep "passes") rfl) (c.def_ 13 (d := fnAt "passes" s_passes) rfl)
  f_law_heap := def_of X G (c.fact 14 (f := .glo "_law_heap") rfl) (c.fact 46 (f := .keep "_law_heap") rfl) (c.def_ 14 (d := fnAt "_law_heap" s_law_heap) rfl)
  f_law_draw := def_of X G (c.fact 15 (f := .glo "_law_draw") rfl) (c.fact 47 (f := .keep "_law_draw") rfl) (c.def_ 15 (d := fnAt "_law_draw" s_law_draw) rfl)
  f_law_mixed := def_of X G (c.fact 16 (f := .glo "_law_mixed") rfl) (c.fact 48 (f := .keep "_law_mixed") rfl) (c.def_ 16 (d := fnAt "_law_mixed" s_law_mixed) rfl)
  f_law_pick := def_of X G (c.fact 17 (f := .glo "_law_pick") rfl) (c.fact 49 (f := .keep "_law_pick") rfl) (c.def_ 17 (d := fnAt "_law_pick" s_law_pick) rfl)
  f_law_names := def_of X G (c.fact 18 (f := .glo "_law_names") rfl) (c.fact 50 (f := .keep "_law_names") rfl) (c.def_ 18 (d := fnAt "_law_names" s_law_names) rfl)
  f_law_single := def_of X G (c.fact 19 (f := .glo "_law_single") rfl) (c.fact 51 (f := .keep "_law_single") rfl) (c.def_ 19 (d := fnAt "_law_single" s_law_single) rfl)
  f_law_sieve := def_of X G (c.fact 20 (f := .glo "_law_sieve") rfl) (c.fact 52 (f := .keep "_law_sieve") rfl) (c.def_ 20 (d := fnAt "_law_sieve" s_law_sieve) rfl)
  f_law_lets := def_of X G (c.fact 21 (f := .glo "_law_lets") rfl) (c.fact 53 (f := .keep "_law_lets") rfl) (c.def_ 21 (d := fnAt "_law_lets" s_law_lets) rfl)
  f_law_labels := def_of X G (c.fact 22 (f := .glo "_law_labels") rfl) (c.fact 54 (f := .keep "_law_labels") rfl) (c.def_ 22 (d := fnAt "_law_labels" s_law_labels) rfl)
  f_law_lists := def_of X G (c.fact 23 (f := .glo "_law_lists") rfl) (c.fact 55 (f := .keep "_law_lists") rfl) (c.def_ 23 (d := fnAt "_law_lists" s_law_lists) rfl)
  f_law_columns := def_of X G (c.fact 24 (f := .glo "_law_columns") rfl) (c.fact 56 (f := .keep "_law_columns") rfl) (c.def_ 24 (d := fnAt "_law_columns" s_law_columns) rfl)
  f_law_single_due := def_of X G (c.fact 25 (f := .glo "_law_single_due") rfl) (c.fact 57 (f := .keep "_law_single_due") rfl) (c.def_ 25 (d := fnAt "_law_single_due" s_law_single_due) rfl)
  f_law_due := def_of X G (c.fact 26 (f := .glo "_law_due") rfl) (c.fact 58 (f := .keep "_law_due") rfl) (c.def_ 26 (d := fnAt "_law_due" s_law_due) rfl)
  f_law_summary := def_of X G (c.fact 27 (f := .glo "_law_summary") rfl) (c.fact 59 (f := .keep "_law_summary") rfl) (c.def_ 27 (d := fnAt "_law_summary" s_law_summary) rfl)
  f_law_told_right := def_of X G (c.fact 28 (f := .glo "_law_told_right") rfl) (c.fact 60 (f := .keep "_law_told_right") rfl) (c.def_ 28 (d := fnAt "_law_told_right" s_law_told_right) rfl)
  f_law_filter_right := def_of X G (c.fact 29 (f := .glo "_law_filter_right") rfl) (c.fact 61 (f := .keep "_law_filter_right") rfl) (c.def_ 29 (d := fnAt "_law_filter_right" s_law_filter_right) rfl)
  f_law_rows_right := def_of X G (c.fact 30 (f := .glo "_law_rows_right") rfl) (c.fact 62 (f := .keep "_law_rows_right") rfl) (c.def_ 30 (d := fnAt "_law_rows_right" s_law_rows_right) rfl)
theorem bi_of (X : K.In h) (G : h.Ns mainGlobals mg) (c : He.SaysE faL fnL K) : Bi mg where
  len := He.free_ok X G (c.fact 64 (f := .free "len") rfl)
  min := He.free_ok X G (c.fact 65 (f := .free "min") rfl)
  max := He.free_ok X G (c.fact 66 (f := .free "max") rfl)
  sorted := He.free_ok X G (c.fact 67 (f := .free "sorted") rfl)
  tuple := He.free_ok X G (c.fact 68 (f := .free "tuple") rfl)
  list := He.free_ok X G (c.fact 69 (f := .free "list") rfl)
  int := He.free_ok X G (c.fact 70 (f := .free "int") rfl)
  all := He.free_ok X G (c.fact 71 (f := .free "all") rfl)
  any := He.free_ok X G (c.fact 72 (f := .free "any") rfl)
  abs := He.free_ok X G (c.fact 73 (f := .free "abs") rfl)
  repr := He.free_ok X G (c.fact 74 (f := .free "repr") rfl)
  set := He.free_ok X G (c.fact 75 (f := .free "set") rfl)
  range := He.free_ok X G (c.fact 76 (f := .free "range") rfl)
theorem law_of (X : K.In h) (G : h.Ns mainGlobals mg) (c : He.SaysE faL fnL K) : Def K mg "law" s_law := def_of X G (c.fact 31 (f := .glo "law") rfl) (c.fact 63 (f := .keep "law") rfl) (c.def_ 31 (d := fnAt "law" s_law) rfl)
end
end D8
namespace D8
open PySem PySem.Spec PyProof.Rows L2

/-! ### the end -/
section
variable {P : Program} {w : World} {K : PySem.W.Frag} {mg mb : Str → Option Value} {fa a : Addr} {s : Shared} {vs : List Value} {ns : List Int}
theorem law_at (T : Tops K mg) (bi : Bi mg) (D : Def K mg "law" s_law) (me : mg "law" = some (.ref fa)) (kin : K.In s.heap) (gl : s.heap.Ns mainGlobals mg) (bl : s.heap.Ns builtinsNs mb) (bb : ∀ x : Str, x ≠ "__name__" → mb x = bootBuiltins x)
    (nolim : s.heap.NoLimit) (gens : s.gens = #[]) (script : s.heap.get? a = some { cls := .type "list", data := .seq vs.toArray }) (iv : IntsAre vs ns) (few : ns.length ≤ 63) :
    codeAny (model P w) callerA (.call (.ref fa) ⟨[.ref a], []⟩) (fun r s' => r = .ok (.ret (.bool true)) ∧ OldK s.heap s'.heap ∧ s'.os = s.os ∧ AllBare s'.gens) s := by
  obtain ⟨f, fd, F, e⟩ := D
  rw [me] at e
  cases e
  have small : ns.length ≤ sizeLine := Nat.le_trans few (by rw [sizeLine_eq]; omega)
  have rel := vals_ints iv
  have len := iv.length
  by_cases known : K.lookup a = none
  · let H : Hp := fun b => if b = a then some (.frz { cls := .type "list", data := .seq vs.toArray } (.lst (ns.map V.int))) else none
    have at_a : H a = some (.frz { cls := .type "list", data := .seq vs.toArray } (.lst (ns.map V.int))) := if_pos rfl
    have back : ∀ b u, H b = some u → b = a ∧ u = .frz { cls := .type "list", data := .seq vs.toArray } (.lst (ns.map V.int)) := fun b u q => by
      by_cases z : b = a
      · subst z
        rw [at_a] at q
        exact ⟨rfl, (Option.some.inj q).symm⟩
      · have n : H b = none := if_neg z
        rw [n] at q; cases q
    refine law_with T bi F kin gl bl bb nolim gens script few H (.inl (.inr ⟨_, at_a⟩)) (fun b u q => ?_) (fun b u q => ⟨(back b u q).1, _, _, (back b u q).2⟩) fun _ _ => known
    obtain ⟨z1, z2⟩ := back b u q
    subst z1 z2
    exact ⟨script, by rw [List.length_map]; exact small, vs, _, rel, script⟩
  · cases q : K.lookup a with
    | none => exact absurd q known
    | some o =>
      have z := kin a o q
      rw [script] at z
      cases z
      exact law_with T bi F kin gl bl bb nolim gens script few (fun _ => none) (.inr ⟨_, vs.toArray, _, q, rfl, rfl, rfl, by rw [List.size_toArray, len]; exact small, by simpa using rel⟩) (fun b u z => by cases z) (fun b u z => by cases z) fun u z => by cases z
end
end D8
open PySem PySem.W PySem.Calls PyProof.Rows
theorem PySem.Challenge.cw_nonearer_k08_whole_verdicts_of_summaries_holds : PySem.Challenge.rw_nonearer_k08_whole_verdicts_of_summaries.Holds := by
  w_on; o_law
  refine HandSHeadRun.head_any (r := D8.theRow) (q := view D8.theRow.prog [35]) (H := D8.hkL) (ob := D8.obL) (M := 4000) (loose := D8.others) (d := HandSHeadRun.topDef D8.theRow.prog 35) (kwd := []) D8.obL_eq
    (by kernel_rfl) (fun s => by kernel_rfl) D8.runL (by kernel_rfl) (by kernel_rfl) (by kernel_rfl) (by rfl) (by first | assumption | decide +kernel) (by decide +kernel) ⟨rfl, rfl, rfl, rfl, rfl, by decide +kernel⟩ ?hw ?hc
  case hw => w_witness2
  case hc =>
    refine Att.attach_call (l := PySem.Challenge.rw_nonearer_k08_whole_verdicts_of_summaries) (n := 63) rfl (by kernel_rfl) fun w s₀ s₁ mg mb fa o pm cd doc a vs ns G Y ho hd hcd hmg hobj hints hlen hg => ?_
    obtain ⟨K, kin, c⟩ := Y
    have me : mg ("law" : PySem.Str) = some (.ref fa) := by
      have e : (HandSHeadRun.topDef D8.theRow.prog 35).name = ("law" : PySem.Str) := by kernel_rfl
      rw [← e]
      exact hmg
    exact D8.law_at (D8.tops_of kin G.T.g c) (D8.bi_of kin G.T.g c) (D8.law_of kin G.T.g c) me kin G.T.g G.T.b G.T.builtins G.T.nolimit hg hobj hints hlen
