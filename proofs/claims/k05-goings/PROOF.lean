import PyProof.Rows.All
import Wide.All
import OpenK.AllK
import Wide.FinOn
import HandS.ForMost
import HandS.Exc
import HandS.ExcOwn
import HandS.WordsExc
import HandS.ExcIs
import HandS.IsInst
import HandS.More
import HandS.Wide
import HandS.CallRecv
import PySem.Challenge.RW_bothhands_k05_goings
set_option Elab.async false
set_option linter.all false
set_option maxRecDepth 100000
set_option maxHeartbeats 8000000
/-! The mathematics: joins as rows of three numbers, goings, and what the law's rows do. No program here. -/
namespace Bh
abbrev Tri := Int × Int × Int
section
variable {κ : Type} [DecidableEq κ]
/-- what stands first under x -/
def look {α : Type} (l : List (Int × α)) (x : Int) : Option α := (l.find? fun e => decide (e.1 = x)).map (·.2)
theorem look_nil {α : Type} {x : Int} : look ([] : List (Int × α)) x = none := rfl
theorem look_pos {α : Type} {p : Int × α} {r : List (Int × α)} {x : Int} (e : p.1 = x) : look (p :: r) x = some p.2 := by
  simp [look, List.find?_cons, e]
theorem look_neg {α : Type} {p : Int × α} {r : List (Int × α)} {x : Int} (e : ¬ p.1 = x) : look (p :: r) x = look r x := by
  simp [look, List.find?_cons, e]
theorem look_mem {α : Type} : ∀ {l : List (Int × α)} {x : Int} {y : α}, look l x = some y → (x, y) ∈ l
  | [], _, _, h => by cases h
  | p :: r, x, y, h => by
    by_cases e : p.1 = x
    · rw [look_pos e] at h
      have h2 : p.2 = y := Option.some.inj h
      have : p = (x, y) := Prod.ext e h2
      rw [this]
      exact List.mem_cons_self
    · rw [look_neg e] at h
      exact List.mem_cons_of_mem _ (look_mem h)
theorem look_of {α : Type} : ∀ {l : List (Int × α)} {x : Int} {y : α}, (l.map (·.1)).Nodup → (x, y) ∈ l → look l x = some y
  | [], _, _, _, h => by cases h
  | p :: r, x, y, nd, h => by
    have nd' : (p.1 :: r.map (·.1)).Nodup := nd
    obtain ⟨h1, h2⟩ := List.nodup_cons.mp nd'
    rcases List.mem_cons.mp h with e | e
    · rw [look_pos (by rw [← e]), ← e]
    · have ne : ¬ p.1 = x := fun z => h1 (by rw [z]; exact List.mem_map.mpr ⟨_, e, rfl⟩)
      rw [look_neg ne]
      exact look_of h2 e
theorem look_not {α : Type} {l : List (Int × α)} {x : Int} (h : ∀ e ∈ l, e.1 ≠ x) : look l x = none := by
  cases q : look l x with
  | none => rfl
  | some y => exact absurd rfl (h _ (look_mem q))
theorem look_none {α : Type} : ∀ {l : List (Int × α)} {x : Int}, look l x = none → ∀ e ∈ l, e.1 ≠ x
  | [], _, _, _, h => by cases h
  | p :: r, x, h, e, he => by
    by_cases c : p.1 = x
    · rw [look_pos c] at h
      cases h
    · rw [look_neg c] at h
      rcases List.mem_cons.mp he with z | z
      · rw [z]; exact c
      · exact look_none h e z
theorem look_snoc {α : Type} : ∀ {l : List (Int × α)} {p : Int × α} {x : Int}, look l x = none → look (l ++ [p]) x = if p.1 = x then some p.2 else none
  | [], p, x, _ => by
    by_cases e : p.1 = x
    · rw [if_pos e]; exact look_pos e
    · rw [if_neg e]; exact look_neg e
  | a :: r, p, x, h => by
    by_cases e : a.1 = x
    · rw [look_pos e] at h; cases h
    · rw [look_neg e] at h
      show look (a :: (r ++ [p])) x = _
      rw [look_neg e]
      exact look_snoc h

/-- from x one may go n times -/
def Go (js : List Tri) : Nat → Int → Prop
  | 0, _ => True
  | n + 1, x => ∃ b m, look js x = some (b, m) ∧ Go js n b
/-- the kind of a sign -/
def kindOf (d : κ) (told : List (Int × κ × Int)) (x : Int) : κ := ((look told x).map (·.1)).getD d
theorem kindOf_mem {d c : κ} {told : List (Int × κ × Int)} {x r : Int} (nd : (told.map (·.1)).Nodup) (h : (x, c, r) ∈ told) : kindOf d told x = c := by
  unfold kindOf
  rw [look_of nd h]
  rfl
theorem kindOf_not {d : κ} {told : List (Int × κ × Int)} {x : Int} (h : ∀ e ∈ told, e.1 ≠ x) : kindOf d told x = d := by
  unfold kindOf
  rw [look_not h]
  rfl
/-- the kinds in use: plain, mark, those that may be told, those that may be joined -/
structure Kinds (κ : Type) where
  plain : κ
  mark : κ
  told : List κ
  joined : List κ
  mt : mark ∈ told
  pm : plain ≠ mark
  pj : plain ∈ joined
  jt : ∀ c ∈ joined, c ≠ plain → c ∈ told
  jm : ∀ c ∈ joined, c ≠ mark
/-- what the first list must be -/
structure TOk (D : Kinds κ) (told : List (Int × κ × Int)) : Prop where
  nd : (told.map (·.1)).Nodup
  pos : ∀ e ∈ told, 0 ≤ e.1 ∧ 0 ≤ e.2.2
  kind : ∀ e ∈ told, e.2.1 ∈ D.told
  rank : ∀ e ∈ told, (e.2.1 = D.mark ↔ 0 < e.2.2)
/-- what the third list must be, but for the goings -/
structure JOk (D : Kinds κ) (told : List (Int × κ × Int)) (js : List Tri) : Prop where
  pos : ∀ j ∈ js, 0 ≤ j.1 ∧ 0 ≤ j.2.1 ∧ 0 ≤ j.2.2
  mark : ∀ j ∈ js, kindOf D.plain told j.2.2 = D.mark
  base : ∀ j ∈ js, kindOf D.plain told j.2.1 ∈ D.joined
  whole : ∀ j ∈ js, kindOf D.plain told j.1 = kindOf D.plain told j.2.1
  ndW : (js.map (·.1)).Nodup
  ndP : (js.map (·.2)).Nodup
theorem JOk.perm {D : Kinds κ} {told : List (Int × κ × Int)} {js ks : List Tri} (h : JOk D told js) (p : ks.Perm js) : JOk D told ks :=
  ⟨fun j hj => h.pos j (p.mem_iff.mp hj), fun j hj => h.mark j (p.mem_iff.mp hj), fun j hj => h.base j (p.mem_iff.mp hj), fun j hj => h.whole j (p.mem_iff.mp hj),
    (p.map _).nodup_iff.mpr h.ndW, (p.map _).nodup_iff.mpr h.ndP⟩

/-! ### signs by their numbers -/
/-- numbers up to 100 name signs, none two alike -/
structure Sig (s : Nat → Int) : Prop where
  pos : ∀ k, 0 ≤ s k
  inj : ∀ i j, i ≤ 100 → j ≤ 100 → s i = s j → i = j
def tri (s : Nat → Int) (t : Nat × Nat × Nat) : Tri := (s t.1, s t.2.1, s t.2.2)
def tl (s : Nat → Int) (e : Nat × κ × Int) : Int × κ × Int := (s e.1, e.2.1, e.2.2)
abbrev ITri := Nat × Nat × Nat
/-- the kind of the sign k is c -/
def Kd (D : Kinds κ) (T : List (Nat × κ × Int)) (k : Nat) (c : κ) : Prop := (∃ r, (k, c, r) ∈ T) ∨ (c = D.plain ∧ ∀ e ∈ T, e.1 ≠ k)
/-- lists of told signs and of joins whose numbers are below b -/
structure Ok (D : Kinds κ) (b : Nat) (T : List (Nat × κ × Int)) (J : List ITri) : Prop where
  b2 : 2 ≤ b
  tnd : (T.map (·.1)).Nodup
  tb : ∀ e ∈ T, e.1 < b
  tk : ∀ e ∈ T, e.2.1 ∈ D.told ∧ 0 ≤ e.2.2 ∧ (e.2.1 = D.mark ↔ 0 < e.2.2)
  t0 : ∃ r, ((0 : Nat), D.mark, r) ∈ T
  t1 : ∃ r, ((1 : Nat), D.mark, r) ∈ T
  jnw : (J.map (·.1)).Nodup
  jnp : (J.map (·.2)).Nodup
  jb : ∀ t ∈ J, t.1 < b ∧ t.2.1 < b ∧ t.2.2 < 2 ∧ 2 ≤ t.1 ∧ 2 ≤ t.2.1
  jk : ∀ t ∈ J, ∃ c ∈ D.joined, Kd D T t.1 c ∧ Kd D T t.2.1 c
/-- the told signs of a row from f on -/
def toldRow (D : Kinds κ) (f m : Nat) (c : κ) : List (Nat × κ × Int) := if c = D.plain then [] else (List.range (m + 1)).map fun k => (f + k, c, 0)
/-- the joins of a row from f on -/
def joinsRow (f m : Nat) : List ITri := (List.range m).map fun k => (f + k + 1, f + k, (f + k) % 2)
theorem toldRow_mem {D : Kinds κ} {f m : Nat} {c : κ} {e : Nat × κ × Int} (h : e ∈ toldRow D f m c) : c ≠ D.plain ∧ ∃ k, k ≤ m ∧ e = (f + k, c, 0) := by
  unfold toldRow at h
  by_cases hc : c = D.plain
  · rw [if_pos hc] at h; cases h
  · rw [if_neg hc] at h
    obtain ⟨k, hk, e'⟩ := List.mem_map.mp h
    exact ⟨hc, k, by have := List.mem_range.mp hk; omega, e'.symm⟩
theorem toldRow_of {D : Kinds κ} {f m k : Nat} {c : κ} (hc : c ≠ D.plain) (hk : k ≤ m) : (f + k, c, (0 : Int)) ∈ toldRow D f m c := by
  unfold toldRow
  rw [if_neg hc]
  exact List.mem_map.mpr ⟨k, List.mem_range.mpr (by omega), rfl⟩
theorem joinsRow_mem {f m : Nat} {t : ITri} (h : t ∈ joinsRow f m) : ∃ k, k < m ∧ t = (f + k + 1, f + k, (f + k) % 2) := by
  obtain ⟨k, hk, e⟩ := List.mem_map.mp h
  exact ⟨k, List.mem_range.mp hk, e.symm⟩
theorem joinsRow_of {f m k : Nat} (h : k < m) : (f + k + 1, f + k, (f + k) % 2) ∈ joinsRow f m := List.mem_map.mpr ⟨k, List.mem_range.mpr h, rfl⟩
theorem nodup_map_range {α : Type} (g : Nat → α) (n : Nat) (h : ∀ i j, i < n → j < n → g i = g j → i = j) : ((List.range n).map g).Nodup := by
  unfold List.Nodup
  rw [List.pairwise_map]
  refine List.Pairwise.imp_of_mem ?_ List.nodup_range
  intro a b ha hb hab e
  exact hab (h a b (List.mem_range.mp ha) (List.mem_range.mp hb) e)
theorem nodup_app {α : Type} {l r : List α} (h1 : l.Nodup) (h2 : r.Nodup) (h : ∀ x ∈ l, x ∉ r) : (l ++ r).Nodup :=
  List.nodup_append.mpr ⟨h1, h2, fun a ha b hb e => h a ha (e ▸ hb)⟩
/-- a row more -/
theorem Ok.row {D : Kinds κ} {b f m : Nat} {c : κ} {T : List (Nat × κ × Int)} {J S : List ITri} (o : Ok D b T J) (hb : b ≤ f) (hc : c ∈ D.joined)
    (s1 : (S.map (·.1)).Nodup) (s2 : (S.map (·.2)).Nodup) (s3 : ∀ t ∈ S, f ≤ t.1 ∧ t.1 ≤ f + m ∧ f ≤ t.2.1 ∧ t.2.1 ≤ f + m ∧ t.2.2 < 2) :
    Ok D (f + m + 1) (T ++ toldRow D f m c) (J ++ S) := by
  have b2 := o.b2
  refine ⟨by omega, ?_, ?_, ?_, ?_, ?_, ?_, ?_, ?_, ?_⟩
  · rw [List.map_append]
    refine nodup_app o.tnd ?_ fun x hx hy => ?_
    · unfold toldRow
      by_cases e : c = D.plain
      · rw [if_pos e]; exact List.nodup_nil
      · rw [if_neg e, List.map_map]
        exact nodup_map_range _ _ fun i j _ _ e => by
          have e' : f + i = f + j := e
          omega
    · obtain ⟨e, he, rfl⟩ := List.mem_map.mp hx
      obtain ⟨e', he', q⟩ := List.mem_map.mp hy
      obtain ⟨_, k, _, rfl⟩ := toldRow_mem he'
      have h1 := o.tb e he
      have q' : f + k = e.1 := q
      omega
  · intro e he
    rcases List.mem_append.mp he with h | h
    · have := o.tb e h; omega
    · obtain ⟨_, k, hk, rfl⟩ := toldRow_mem h
      show f + k < f + m + 1
      omega
  · intro e he
    rcases List.mem_append.mp he with h | h
    · exact o.tk e h
    · obtain ⟨hp, k, hk, rfl⟩ := toldRow_mem h
      exact ⟨D.jt c hc hp, Int.le_refl 0, fun z => absurd z (D.jm c hc), fun z => absurd (show (0 : Int) < 0 from z) (by decide)⟩
  · obtain ⟨r, h⟩ := o.t0
    exact ⟨r, List.mem_append_left _ h⟩
  · obtain ⟨r, h⟩ := o.t1
    exact ⟨r, List.mem_append_left _ h⟩
  · rw [List.map_append]
    refine nodup_app o.jnw s1 fun x hx hy => ?_
    obtain ⟨e, he, rfl⟩ := List.mem_map.mp hx
    obtain ⟨e', he', q⟩ := List.mem_map.mp hy
    have h1 := o.jb e he
    have h2 := s3 e' he'
    have q' : e'.1 = e.1 := q
    omega
  · rw [List.map_append]
    refine nodup_app o.jnp s2 fun x hx hy => ?_
    obtain ⟨e, he, rfl⟩ := List.mem_map.mp hx
    obtain ⟨e', he', q⟩ := List.mem_map.mp hy
    have h1 := o.jb e he
    have h2 := s3 e' he'
    have q' : e'.2.1 = e.2.1 := congrArg Prod.fst q
    omega
  · intro t ht
    rcases List.mem_append.mp ht with h | h
    · have := o.jb t h; omega
    · have := s3 t h; omega
  · intro t ht
    rcases List.mem_append.mp ht with h | h
    · obtain ⟨c', hc', k1, k2⟩ := o.jk t h
      have hb' := o.jb t h
      have ext : ∀ k, k < b → Kd D T k c' → Kd D (T ++ toldRow D f m c) k c' := fun k hk z => by
        rcases z with ⟨r, z⟩ | ⟨e, z⟩
        · exact .inl ⟨r, List.mem_append_left _ z⟩
        · refine .inr ⟨e, fun y hy => ?_⟩
          rcases List.mem_append.mp hy with h' | h'
          · exact z y h'
          · obtain ⟨_, i, _, rfl⟩ := toldRow_mem h'
            show f + i ≠ k
            omega
      exact ⟨c', hc', ext _ hb'.1 k1, ext _ hb'.2.1 k2⟩
    · have h3 := s3 t h
      have kd : ∀ k, f ≤ k → k ≤ f + m → Kd D (T ++ toldRow D f m c) k c := fun k h1 h2 => by
        by_cases e : c = D.plain
        · refine .inr ⟨e, fun y hy => ?_⟩
          rcases List.mem_append.mp hy with h' | h'
          · have := o.tb y h'; omega
          · exact absurd e (toldRow_mem h').1
        · refine .inl ⟨0, List.mem_append_right _ ?_⟩
          have q := toldRow_of (D := D) (f := f) (m := m) (k := k - f) e (by omega)
          have e2 : f + (k - f) = k := by omega
          rw [e2] at q
          exact q
      exact ⟨c, hc, kd _ h3.1 h3.2.1, kd _ h3.2.2.1 h3.2.2.2.1⟩
theorem joinsRow_ok (f m : Nat) : ((joinsRow f m).map (·.1)).Nodup ∧ ((joinsRow f m).map (·.2)).Nodup ∧ ∀ t ∈ joinsRow f m, f ≤ t.1 ∧ t.1 ≤ f + m ∧ f ≤ t.2.1 ∧ t.2.1 ≤ f + m ∧ t.2.2 < 2 := by
  refine ⟨?_, ?_, fun t ht => ?_⟩
  · unfold joinsRow
    rw [List.map_map]
    exact nodup_map_range _ _ fun i j _ _ e => by
      have e' : f + i + 1 = f + j + 1 := e
      omega
  · unfold joinsRow
    rw [List.map_map]
    exact nodup_map_range _ _ fun i j _ _ e => by
      have e' : f + i = f + j := congrArg Prod.fst e
      omega
  · obtain ⟨k, hk, rfl⟩ := joinsRow_mem ht
    refine ⟨?_, ?_, ?_, ?_, ?_⟩
    · show f ≤ f + k + 1; omega
    · show f + k + 1 ≤ f + m; omega
    · show f ≤ f + k; omega
    · show f + k ≤ f + m; omega
    · exact Nat.mod_lt _ (by decide)
/-- the start: two marks told -/
theorem Ok.start (D : Kinds κ) {r : Int} (hr : 0 < r) : Ok D 2 [((0 : Nat), D.mark, (1 : Int)), (1, D.mark, r)] [] where
  b2 := Nat.le_refl 2
  tnd := by
    show ([0, 1] : List Nat).Nodup
    decide
  tb := fun e he => by
    rcases List.mem_cons.mp he with h | h
    · rw [h]; show (0 : Nat) < 2; decide
    · rw [List.mem_singleton.mp h]; show (1 : Nat) < 2; decide
  tk := fun e he => by
    rcases List.mem_cons.mp he with h | h
    · rw [h]; exact ⟨D.mt, (by decide : (0 : Int) ≤ 1), fun _ => (by decide : (0 : Int) < 1), fun _ => rfl⟩
    · rw [List.mem_singleton.mp h]; exact ⟨D.mt, Int.le_of_lt hr, fun _ => hr, fun _ => rfl⟩
  t0 := ⟨1, List.mem_cons_self⟩
  t1 := ⟨r, List.mem_cons_of_mem _ List.mem_cons_self⟩
  jnw := List.nodup_nil
  jnp := List.nodup_nil
  jb := fun _ h => by cases h
  jk := fun _ h => by cases h
/-! ### from numbers to signs -/
theorem nodup_map_on {α β : Type} (g : α → β) : ∀ {l : List α}, l.Nodup → (∀ x ∈ l, ∀ y ∈ l, g x = g y → x = y) → (l.map g).Nodup := by
  intro l nd h
  unfold List.Nodup
  rw [List.pairwise_map]
  refine List.Pairwise.imp_of_mem ?_ nd
  intro a b ha hb hab e
  exact hab (h a ha b hb e)
section
variable {s : Nat → Int} {D : Kinds κ} {b : Nat} {T : List (Nat × κ × Int)} {J : List ITri}
theorem Ok.tok (o : Ok D b T J) (S : Sig s) (hb : b ≤ 101) : TOk D (T.map (tl s)) where
  nd := by
    have e : (T.map (tl s)).map (·.1) = (T.map (·.1)).map s := by rw [List.map_map, List.map_map]; rfl
    rw [e]
    refine nodup_map_on s o.tnd fun x hx y hy q => ?_
    obtain ⟨e1, h1, rfl⟩ := List.mem_map.mp hx
    obtain ⟨e2, h2, rfl⟩ := List.mem_map.mp hy
    have := o.tb e1 h1
    have := o.tb e2 h2
    exact S.inj _ _ (by omega) (by omega) q
  pos := fun e he => by
    obtain ⟨t, ht, rfl⟩ := List.mem_map.mp he
    exact ⟨S.pos _, (o.tk t ht).2.1⟩
  kind := fun e he => by
    obtain ⟨t, ht, rfl⟩ := List.mem_map.mp he
    exact (o.tk t ht).1
  rank := fun e he => by
    obtain ⟨t, ht, rfl⟩ := List.mem_map.mp he
    exact (o.tk t ht).2.2
theorem Ok.kd (o : Ok D b T J) (S : Sig s) (hb : b ≤ 101) {k : Nat} {c : κ} (hk : k < b) (h : Kd D T k c) : kindOf D.plain (T.map (tl s)) (s k) = c := by
  rcases h with ⟨r, h⟩ | ⟨e, h⟩
  · exact kindOf_mem (r := r) (o.tok S hb).nd (List.mem_map.mpr ⟨_, h, rfl⟩)
  · rw [e]
    refine kindOf_not fun y hy q => ?_
    obtain ⟨t, ht, rfl⟩ := List.mem_map.mp hy
    have := o.tb t ht
    exact h t ht (S.inj _ _ (by omega) (by omega) q)
theorem Ok.jok (o : Ok D b T J) (S : Sig s) (hb : b ≤ 101) : JOk D (T.map (tl s)) (J.map (tri s)) where
  pos := fun j hj => by
    obtain ⟨t, ht, rfl⟩ := List.mem_map.mp hj
    exact ⟨S.pos _, S.pos _, S.pos _⟩
  mark := fun j hj => by
    obtain ⟨t, ht, rfl⟩ := List.mem_map.mp hj
    have h := o.jb t ht
    have b2 := o.b2
    have hm : Kd D T t.2.2 D.mark := by
      rcases (by omega : t.2.2 = 0 ∨ t.2.2 = 1) with e | e
      · rw [e]; obtain ⟨r, z⟩ := o.t0; exact .inl ⟨r, z⟩
      · rw [e]; obtain ⟨r, z⟩ := o.t1; exact .inl ⟨r, z⟩
    exact o.kd S hb (by omega) hm
  base := fun j hj => by
    obtain ⟨t, ht, rfl⟩ := List.mem_map.mp hj
    obtain ⟨c, hc, _, k2⟩ := o.jk t ht
    have e : kindOf D.plain (T.map (tl s)) (tri s t).2.1 = c := o.kd S hb (o.jb t ht).2.1 k2
    rw [e]
    exact hc
  whole := fun j hj => by
    obtain ⟨t, ht, rfl⟩ := List.mem_map.mp hj
    obtain ⟨c, hc, k1, k2⟩ := o.jk t ht
    exact (o.kd S hb (o.jb t ht).1 k1).trans (o.kd S hb (o.jb t ht).2.1 k2).symm
  ndW := by
    have e : (J.map (tri s)).map (·.1) = (J.map (·.1)).map s := by rw [List.map_map, List.map_map]; rfl
    rw [e]
    refine nodup_map_on s o.jnw fun x hx y hy q => ?_
    obtain ⟨e1, h1, rfl⟩ := List.mem_map.mp hx
    obtain ⟨e2, h2, rfl⟩ := List.mem_map.mp hy
    have := o.jb e1 h1
    have := o.jb e2 h2
    exact S.inj _ _ (by omega) (by omega) q
  ndP := by
    have e : (J.map (tri s)).map (·.2) = (J.map (·.2)).map fun p => (s p.1, s p.2) := by rw [List.map_map, List.map_map]; rfl
    rw [e]
    refine nodup_map_on _ o.jnp fun x hx y hy q => ?_
    obtain ⟨e1, h1, rfl⟩ := List.mem_map.mp hx
    obtain ⟨e2, h2, rfl⟩ := List.mem_map.mp hy
    have a1 := o.jb e1 h1
    have a2 := o.jb e2 h2
    have b2 := o.b2
    exact Prod.ext (S.inj _ _ (by omega) (by omega) (congrArg Prod.fst q)) (S.inj _ _ (by omega) (by omega) (congrArg Prod.snd q))
/-- goings of a rank that falls -/
theorem go_rank {js : List Tri} (S : Sig s) (ρ : Nat → Nat) (hj : ∀ j ∈ js, ∃ t : ITri, j = tri s t ∧ t.1 ≤ 100 ∧ t.2.1 ≤ 100 ∧ ρ t.2.1 < ρ t.1) : ∀ (n a : Nat), a ≤ 100 → Go js n (s a) → n ≤ ρ a
  | 0, a, _, _ => Nat.zero_le _
  | n + 1, a, ha, h => by
    obtain ⟨b, m, e, g⟩ := h
    obtain ⟨t, q, h1, h2, h3⟩ := hj _ (look_mem e)
    have e1 : s a = s t.1 := congrArg Prod.fst q
    have e2 : b = s t.2.1 := congrArg (fun z => z.2.1) q
    have ea : a = t.1 := S.inj _ _ ha h1 e1
    rw [e2] at g
    have := go_rank S ρ hj n t.2.1 h2 g
    rw [ea]
    omega
theorem noGo {js : List Tri} (S : Sig s) (ρ : Nat → Nat) (hj : ∀ j ∈ js, ∃ t : ITri, j = tri s t ∧ t.1 ≤ 100 ∧ t.2.1 ≤ 100 ∧ ρ t.2.1 < ρ t.1 ∧ ρ t.1 ≤ 7) : ∀ w ∈ js.map (·.1), ¬ Go js 8 w := by
  intro w hw g
  obtain ⟨j, h, rfl⟩ := List.mem_map.mp hw
  obtain ⟨t, q, h1, h2, h3, h4⟩ := hj j h
  have e1 : j.1 = s t.1 := congrArg Prod.fst q
  rw [e1] at g
  have := go_rank S ρ (fun j hj' => by obtain ⟨t, q, a, b, c, _⟩ := hj j hj'; exact ⟨t, q, a, b, c⟩) 8 t.1 h1 g
  omega
/-- a chain -/
theorem go_chain {js : List Tri} (nd : (js.map (·.1)).Nodup) (f : Nat) : ∀ n : Nat, (∀ i, i < n → ∃ m, (s (f + i + 1), s (f + i), m) ∈ js) → Go js n (s (f + n))
  | 0, _ => trivial
  | n + 1, h => by
    obtain ⟨m, hm⟩ := h n (Nat.lt_succ_self n)
    exact ⟨s (f + n), m, look_of nd hm, go_chain nd f n fun i hi => h i (Nat.lt_succ_of_lt hi)⟩
/-- a round -/
theorem go_round {js : List Tri} (nd : (js.map (·.1)).Nodup) (C : Int → Prop) (h : ∀ x, C x → ∃ y m, C y ∧ (x, y, m) ∈ js) : ∀ (n : Nat) (x : Int), C x → Go js n x
  | 0, _, _ => trivial
  | n + 1, x, hx => by
    obtain ⟨y, m, hy, e⟩ := h x hx
    exact ⟨y, m, look_of nd e, go_round nd C h n y hy⟩
end
/-! ### the law's rows -/
theorem Ok.mono {D : Kinds κ} {b b' : Nat} {T : List (Nat × κ × Int)} {J : List ITri} (o : Ok D b T J) (h : b ≤ b') : Ok D b' T J :=
  ⟨by have := o.b2; omega, o.tnd, fun e he => by have := o.tb e he; omega, o.tk, o.t0, o.t1, o.jnw, o.jnp, fun t ht => by have := o.jb t ht; omega, o.jk⟩
/-- the rank of the signs of the first rows -/
def rk0 (k : Nat) : Nat := (k - 2) % 8
/-- behind i rows: told signs, joins, the rows' beginnings and lengths -/
structure Rows (D : Kinds κ) (i : Nat) (T : List (Nat × κ × Int)) (J : List ITri) (R : List (Nat × Nat)) : Prop where
  ok : Ok D (2 + 8 * i) T J
  rk : ∀ t ∈ J, rk0 t.2.1 < rk0 t.1
  rr : ∀ p ∈ R, p.1 + p.2 < 2 + 8 * i ∧ (∀ k, k < p.2 → (p.1 + k + 1, p.1 + k, (p.1 + k) % 2) ∈ J) ∧ ∀ t ∈ J, t.1 ≠ p.1
theorem Rows.start (D : Kinds κ) {r : Int} (hr : 0 < r) : Rows D 0 [((0 : Nat), D.mark, (1 : Int)), (1, D.mark, r)] [] [] :=
  ⟨Ok.start D hr, (fun _ h => nomatch h), (fun _ h => nomatch h)⟩
theorem Rows.step {D : Kinds κ} {i m : Nat} {c : κ} {T : List (Nat × κ × Int)} {J : List ITri} {R : List (Nat × Nat)} (r : Rows D i T J R) (hm : m ≤ 7) (hc : c ∈ D.joined) :
    Rows D (i + 1) (T ++ toldRow D (2 + 8 * i) m c) (J ++ joinsRow (2 + 8 * i) m) (R ++ [(2 + 8 * i, m)]) := by
  obtain ⟨s1, s2, s3⟩ := joinsRow_ok (2 + 8 * i) m
  refine ⟨(r.ok.row (Nat.le_refl _) hc s1 s2 s3).mono (by omega), fun t ht => ?_, fun p hp => ?_⟩
  · rcases List.mem_append.mp ht with h | h
    · exact r.rk t h
    · obtain ⟨k, hk, rfl⟩ := joinsRow_mem h
      show (2 + 8 * i + k - 2) % 8 < (2 + 8 * i + k + 1 - 2) % 8
      omega
  · rcases List.mem_append.mp hp with h | h
    · obtain ⟨h1, h2, h3⟩ := r.rr p h
      refine ⟨by omega, fun k hk => List.mem_append_left _ (h2 k hk), fun t ht => ?_⟩
      rcases List.mem_append.mp ht with h' | h'
      · exact h3 t h'
      · obtain ⟨k, hk, rfl⟩ := joinsRow_mem h'
        show 2 + 8 * i + k + 1 ≠ p.1
        omega
    · rw [List.mem_singleton.mp h]
      refine ⟨by show 2 + 8 * i + m < 2 + 8 * (i + 1); omega, fun k hk => List.mem_append_right _ (joinsRow_of hk), fun t ht => ?_⟩
      rcases List.mem_append.mp ht with h' | h'
      · have := r.ok.jb t h'
        show t.1 ≠ 2 + 8 * i
        omega
      · obtain ⟨k, hk, rfl⟩ := joinsRow_mem h'
        show 2 + 8 * i + k + 1 ≠ 2 + 8 * i
        omega
section
variable {s : Nat → Int} {D : Kinds κ} {i : Nat} {T : List (Nat × κ × Int)} {J : List ITri} {R : List (Nat × Nat)} {js : List Tri}
theorem Rows.noGo (r : Rows D i T J R) (hi : i ≤ 4) (S : Sig s) (p : js.Perm (J.map (tri s))) : ∀ w ∈ js.map (·.1), ¬ Go js 8 w := by
  refine Bh.noGo S rk0 fun j hj => ?_
  obtain ⟨t, ht, rfl⟩ := List.mem_map.mp (p.mem_iff.mp hj)
  have := r.ok.jb t ht
  exact ⟨t, rfl, by omega, by omega, r.rk t ht, by unfold rk0; omega⟩
theorem Rows.goes (r : Rows D i T J R) (hi : i ≤ 4) (S : Sig s) (p : js.Perm (J.map (tri s))) {f m : Nat} (h : (f, m) ∈ R) :
    (∀ k, k < m → look js (s (f + k + 1)) = some (s (f + k), s ((f + k) % 2))) ∧ look js (s f) = none := by
  obtain ⟨h1, h2, h3⟩ := r.rr _ h
  have h1' : f + m < 2 + 8 * i := h1
  have nd : (js.map (·.1)).Nodup := (p.map _).nodup_iff.mpr (r.ok.jok S (by omega)).ndW
  refine ⟨fun k hk => look_of nd (p.mem_iff.mpr (List.mem_map.mpr ⟨_, h2 k hk, rfl⟩)), look_not fun e he q => ?_⟩
  obtain ⟨t, ht, rfl⟩ := List.mem_map.mp (p.mem_iff.mp he)
  have := r.ok.jb t ht
  exact h3 t ht (S.inj _ _ (by omega) (by omega) q)
/-! ### the row more -/
/-- S: the joins of the row more, all within 70 to 70 + m, no whole twice, no pair twice -/
structure More (m : Nat) (S : List ITri) : Prop where
  s1 : (S.map (·.1)).Nodup
  s2 : (S.map (·.2)).Nodup
  s3 : ∀ t ∈ S, 70 ≤ t.1 ∧ t.1 ≤ 70 + m ∧ 70 ≤ t.2.1 ∧ t.2.1 ≤ 70 + m ∧ t.2.2 < 2
theorem More.line (m : Nat) : More m (joinsRow 70 m) := let ⟨a, b, c⟩ := joinsRow_ok 70 m; ⟨a, b, c⟩
theorem More.round (m q : Nat) (hq : q < 2) : More m (joinsRow 70 m ++ [(70, 70 + m, q)]) := by
  obtain ⟨a, b, c⟩ := joinsRow_ok 70 m
  refine ⟨?_, ?_, fun t ht => ?_⟩
  · rw [List.map_append]
    refine nodup_app a (List.nodup_cons.mpr ⟨List.not_mem_nil, List.nodup_nil⟩) fun x hx hy => ?_
    obtain ⟨e, he, rfl⟩ := List.mem_map.mp hx
    obtain ⟨k, hk, rfl⟩ := joinsRow_mem he
    have z : 70 + k + 1 = 70 := List.mem_singleton.mp hy
    omega
  · rw [List.map_append]
    refine nodup_app b (List.nodup_cons.mpr ⟨List.not_mem_nil, List.nodup_nil⟩) fun x hx hy => ?_
    obtain ⟨e, he, rfl⟩ := List.mem_map.mp hx
    obtain ⟨k, hk, rfl⟩ := joinsRow_mem he
    have z : 70 + k = 70 + m := congrArg Prod.fst (List.mem_singleton.mp hy)
    omega
  · rcases List.mem_append.mp ht with h | h
    · exact c t h
    · rw [List.mem_singleton.mp h]
      exact ⟨Nat.le_refl _, Nat.le_add_right _ _, Nat.le_add_right _ _, Nat.le_refl _, hq⟩
theorem More.sub {m : Nat} {S S' : List ITri} (h : More m S) (l : S'.Sublist S) : More m S' :=
  ⟨(l.map _).nodup h.s1, (l.map _).nodup h.s2, fun t ht => h.s3 t (l.subset ht)⟩
theorem Rows.more (r : Rows D i T J R) (hi : i ≤ 4) {m : Nat} {S : List ITri} (M : More m S) {c : κ} (hc : c ∈ D.joined) : Ok D (70 + m + 1) (T ++ toldRow D 70 m c) (J ++ S) :=
  (r.ok.mono (b' := 70) (by omega)).row (Nat.le_refl _) hc M.s1 M.s2 M.s3
/-- all that one asks of a list of joins that is the rows' and S, in any order -/
theorem Rows.both (r : Rows D i T J R) (hi : i ≤ 4) (Sg : Sig s) {m : Nat} {S : List ITri} (M : More m S) (hm : m ≤ 12) {c : κ} (hc : c ∈ D.joined) (p : js.Perm ((J ++ S).map (tri s))) :
    TOk D ((T ++ toldRow D 70 m c).map (tl s)) ∧ JOk D ((T ++ toldRow D 70 m c).map (tl s)) js :=
  ⟨(r.more hi M hc).tok Sg (by omega), ((r.more hi M hc).jok Sg (by omega)).perm p⟩
theorem mem_of_more {S : List ITri} (p : js.Perm ((J ++ S).map (tri s))) {t : ITri} (h : t ∈ S) : tri s t ∈ js := p.mem_iff.mpr (List.mem_map.mpr ⟨t, List.mem_append_right _ h, rfl⟩)
/-- eight goings in S, from f + 8 on -/
theorem go_more {S : List ITri} (nd : (js.map (·.1)).Nodup) (p : js.Perm ((J ++ S).map (tri s))) (f : Nat) (h : ∀ i, i < 8 → ∃ q, (f + i + 1, f + i, q) ∈ S) : ∃ w ∈ js.map (·.1), Go js 8 w := by
  refine ⟨s (f + 8), ?_, go_chain nd f 8 fun i hi => ?_⟩
  · obtain ⟨q, z⟩ := h 7 (by decide)
    exact List.mem_map.mpr ⟨_, mem_of_more p z, rfl⟩
  · obtain ⟨q, z⟩ := h i hi
    exact ⟨s q, mem_of_more p z⟩
/-- a line of eight or more -/
theorem go_line {m : Nat} (hm : 8 ≤ m) (nd : (js.map (·.1)).Nodup) (p : js.Perm ((J ++ joinsRow 70 m).map (tri s))) : ∃ w ∈ js.map (·.1), Go js 8 w :=
  go_more nd p 70 fun i hi => ⟨_, joinsRow_of (by omega)⟩
/-- a round of any length -/
theorem go_back {m q : Nat} (nd : (js.map (·.1)).Nodup) (p : js.Perm ((J ++ (joinsRow 70 m ++ [(70, 70 + m, q)])).map (tri s))) : ∃ w ∈ js.map (·.1), Go js 8 w := by
  have e0 : (s 70, s (70 + m), s q) ∈ js := mem_of_more (t := (70, 70 + m, q)) p (List.mem_append_right _ List.mem_cons_self)
  refine ⟨s 70, List.mem_map.mpr ⟨_, e0, rfl⟩, go_round nd (fun x => ∃ k, k ≤ m ∧ x = s (70 + k)) (fun x hx => ?_) 8 _ ⟨0, Nat.zero_le _, rfl⟩⟩
  obtain ⟨k, hk, rfl⟩ := hx
  cases k with
  | zero => exact ⟨s (70 + m), s q, ⟨m, Nat.le_refl _, rfl⟩, e0⟩
  | succ k => exact ⟨s (70 + k), s ((70 + k) % 2), ⟨k, by omega, rfl⟩, mem_of_more (t := (70 + k + 1, 70 + k, (70 + k) % 2)) p (List.mem_append_left _ (joinsRow_of (by omega)))⟩
/-! ### one join cut out -/
def cut {α : Type} (S : List α) (a : Nat) : List α := S.take a ++ S.drop (a + 1)
theorem cut_erase {α : Type} (S : List α) (a : Nat) : cut S a = S.eraseIdx a := by
  unfold cut
  rw [List.eraseIdx_eq_take_drop_succ]
theorem cut_sub {α : Type} (S : List α) (a : Nat) : (cut S a).Sublist S := by
  rw [cut_erase]
  exact List.eraseIdx_sublist _ _
theorem cut_mem {α : Type} {S : List α} {a : Nat} {t : α} (h : t ∈ cut S a) : ∃ j, j ≠ a ∧ S[j]? = some t := by
  rcases List.mem_append.mp h with h | h
  · obtain ⟨j, e⟩ := List.mem_iff_getElem?.mp h
    rw [List.getElem?_take] at e
    by_cases hj : j < a
    · rw [if_pos hj] at e
      exact ⟨j, by omega, e⟩
    · rw [if_neg hj] at e; cases e
  · obtain ⟨j, e⟩ := List.mem_iff_getElem?.mp h
    rw [List.getElem?_drop] at e
    exact ⟨a + 1 + j, by omega, e⟩
theorem cut_of {α : Type} {S : List α} {a j : Nat} {t : α} (hj : j ≠ a) (h : S[j]? = some t) : t ∈ cut S a := by
  rcases Nat.lt_or_gt_of_ne hj with z | z
  · refine List.mem_append_left _ (List.mem_iff_getElem?.mpr ⟨j, ?_⟩)
    rw [List.getElem?_take, if_pos z]
    exact h
  · refine List.mem_append_right _ (List.mem_iff_getElem?.mpr ⟨j - (a + 1), ?_⟩)
    rw [List.getElem?_drop]
    have e : a + 1 + (j - (a + 1)) = j := by omega
    rw [e]
    exact h
theorem cut_len {α : Type} {S : List α} {a : Nat} (h : a < S.length) : (cut S a).length = S.length - 1 := by
  rw [cut_erase, List.length_eraseIdx_of_lt h]
theorem joinsRow_at {f m j : Nat} : (joinsRow f m)[j]? = if j < m then some (f + j + 1, f + j, (f + j) % 2) else none := by
  unfold joinsRow
  rw [List.getElem?_map]
  by_cases h : j < m
  · rw [if_pos h, List.getElem?_range h]; rfl
  · rw [if_neg h, List.getElem?_eq_none (by rw [List.length_range]; omega)]; rfl
theorem joinsRow_len (f m : Nat) : (joinsRow f m).length = m := by
  unfold joinsRow
  rw [List.length_map, List.length_range]
/-- the whole of the join that was cut is none -/
theorem cut_gone (r : Rows D i T J R) (hi : i ≤ 4) (Sg : Sig s) {m a : Nat} {S : List ITri} (M : More m S) (hm : m ≤ 12) (p : js.Perm ((J ++ cut S a).map (tri s))) {t : ITri} (h : S[a]? = some t) : look js (s t.1) = none := by
  refine look_not fun e he q => ?_
  obtain ⟨u, hu, rfl⟩ := List.mem_map.mp (p.mem_iff.mp he)
  have ht := M.s3 t (List.mem_iff_getElem?.mpr ⟨a, h⟩)
  rcases List.mem_append.mp hu with hu | hu
  · have := r.ok.jb u hu
    have := Sg.inj _ _ (by omega) (by omega) (show s u.1 = s t.1 from q)
    omega
  · obtain ⟨j, hj, e⟩ := cut_mem hu
    have hu' := M.s3 u (List.mem_iff_getElem?.mpr ⟨j, e⟩)
    have z := Sg.inj _ _ (by omega) (by omega) (show s u.1 = s t.1 from q)
    have e1 : (S.map (·.1))[j]? = some u.1 := by rw [List.getElem?_map, e]; rfl
    have e2 : (S.map (·.1))[a]? = some t.1 := by rw [List.getElem?_map, h]; rfl
    rw [z] at e1
    have l1 := (List.getElem?_eq_some_iff.mp e1).1
    exact hj ((List.getElem?_inj l1 M.s1).mp (e1.trans e2.symm))
/-- no eight goings, by a rank of the row's signs -/
theorem cut_noGo (r : Rows D i T J R) (hi : i ≤ 4) (Sg : Sig s) {m : Nat} {S : List ITri} (M : More m S) (hm : m ≤ 12) (p : js.Perm ((J ++ S).map (tri s))) (ρ : Nat → Nat)
    (h : ∀ t ∈ S, ρ (t.2.1 - 70) < ρ (t.1 - 70) ∧ ρ (t.1 - 70) ≤ 7) : ∀ w ∈ js.map (·.1), ¬ Go js 8 w := by
  refine Bh.noGo Sg (fun k => if k < 70 then rk0 k else ρ (k - 70)) fun j hj => ?_
  obtain ⟨t, ht, rfl⟩ := List.mem_map.mp (p.mem_iff.mp hj)
  rcases List.mem_append.mp ht with h' | h'
  · have hb := r.ok.jb t h'
    refine ⟨t, rfl, by omega, by omega, ?_, ?_⟩
    · show (if t.2.1 < 70 then rk0 t.2.1 else ρ (t.2.1 - 70)) < (if t.1 < 70 then rk0 t.1 else ρ (t.1 - 70))
      rw [if_pos (by omega), if_pos (by omega)]
      exact r.rk t h'
    · show (if t.1 < 70 then rk0 t.1 else ρ (t.1 - 70)) ≤ 7
      rw [if_pos (by omega)]
      unfold rk0
      omega
  · have hb := M.s3 t h'
    obtain ⟨h1, h2⟩ := h t h'
    refine ⟨t, rfl, by omega, by omega, ?_, ?_⟩
    · show (if t.2.1 < 70 then rk0 t.2.1 else ρ (t.2.1 - 70)) < (if t.1 < 70 then rk0 t.1 else ρ (t.1 - 70))
      rw [if_neg (by omega), if_neg (by omega)]
      exact h1
    · show (if t.1 < 70 then rk0 t.1 else ρ (t.1 - 70)) ≤ 7
      rw [if_neg (by omega)]
      exact h2
theorem line_cut (r : Rows D i T J R) (hi : i ≤ 4) (Sg : Sig s) {m a : Nat} (hm : m ≤ 12) (ha : a < 8) (hb : m - 1 - a < 8) (p : js.Perm ((J ++ cut (joinsRow 70 m) a).map (tri s))) : ∀ w ∈ js.map (·.1), ¬ Go js 8 w := by
  refine cut_noGo r hi Sg ((More.line m).sub (cut_sub _ a)) hm p (fun x => if x ≤ a then x else x - a - 1) fun t ht => ?_
  obtain ⟨j, hj, e⟩ := cut_mem ht
  rw [joinsRow_at] at e
  by_cases hjm : j < m
  · rw [if_pos hjm] at e
    cases e
    have e1 : 70 + j - 70 = j := by omega
    have e2 : 70 + j + 1 - 70 = j + 1 := by omega
    show (if 70 + j - 70 ≤ a then 70 + j - 70 else 70 + j - 70 - a - 1) < (if 70 + j + 1 - 70 ≤ a then 70 + j + 1 - 70 else 70 + j + 1 - 70 - a - 1) ∧ (if 70 + j + 1 - 70 ≤ a then 70 + j + 1 - 70 else 70 + j + 1 - 70 - a - 1) ≤ 7
    rw [e1, e2]
    by_cases c1 : j + 1 ≤ a
    · rw [if_pos (by omega), if_pos c1]
      omega
    · rw [if_neg (by omega), if_neg c1]
      omega
  · rw [if_neg hjm] at e; cases e
theorem round_cut (r : Rows D i T J R) (hi : i ≤ 4) (Sg : Sig s) {m a q : Nat} (hm : m ≤ 6) (hq : q < 2) (ha : a ≤ m) (p : js.Perm ((J ++ cut (joinsRow 70 m ++ [(70, 70 + m, q)]) a).map (tri s))) : ∀ w ∈ js.map (·.1), ¬ Go js 8 w := by
  refine cut_noGo r hi Sg ((More.round m q hq).sub (cut_sub _ a)) (by omega) p (fun x => if x ≤ a then m - a + x else x - a - 1) fun t ht => ?_
  obtain ⟨j, hj, e⟩ := cut_mem ht
  have e' : (70 + j + 1, 70 + j, (70 + j) % 2) = t ∧ j < m ∨ (70, 70 + m, q) = t ∧ j = m := by
    by_cases hjm : j < m
    · rw [List.getElem?_append_left (by rw [joinsRow_len]; exact hjm), joinsRow_at, if_pos hjm] at e
      exact .inl ⟨Option.some.inj e, hjm⟩
    · rw [List.getElem?_append_right (by rw [joinsRow_len]; omega), joinsRow_len] at e
      by_cases hz : j - m = 0
      · rw [hz] at e
        exact .inr ⟨Option.some.inj e, by omega⟩
      · rw [List.getElem?_eq_none (by rw [List.length_singleton]; omega)] at e
        cases e
  rcases e' with ⟨rfl, hjm⟩ | ⟨rfl, hjm⟩
  · have e1 : 70 + j - 70 = j := by omega
    have e2 : 70 + j + 1 - 70 = j + 1 := by omega
    show (if 70 + j - 70 ≤ a then m - a + (70 + j - 70) else 70 + j - 70 - a - 1) < (if 70 + j + 1 - 70 ≤ a then m - a + (70 + j + 1 - 70) else 70 + j + 1 - 70 - a - 1) ∧ (if 70 + j + 1 - 70 ≤ a then m - a + (70 + j + 1 - 70) else 70 + j + 1 - 70 - a - 1) ≤ 7
    rw [e1, e2]
    by_cases c1 : j + 1 ≤ a
    · rw [if_pos (by omega), if_pos c1]
      omega
    · rw [if_neg (by omega), if_neg c1]
      omega
  · have e1 : 70 + m - 70 = m := by omega
    show (if 70 + m - 70 ≤ a then m - a + (70 + m - 70) else 70 + m - 70 - a - 1) < (if 70 - 70 ≤ a then m - a + (70 - 70) else 70 - 70 - a - 1) ∧ (if 70 - 70 ≤ a then m - a + (70 - 70) else 70 - 70 - a - 1) ≤ 7
    rw [e1, if_neg (by omega), if_pos (by omega)]
    omega
/-- a line cut so that eight goings are left -/
theorem line_left {m a : Nat} (h : ¬ (a < 8 ∧ m - 1 - a < 8)) (ha : a < m) (nd : (js.map (·.1)).Nodup) (p : js.Perm ((J ++ cut (joinsRow 70 m) a).map (tri s))) : ∃ w ∈ js.map (·.1), Go js 8 w := by
  by_cases c : a < 8
  · refine go_more nd p (70 + a + 1) fun i hi => ⟨(70 + (a + 1 + i)) % 2, cut_of (j := a + 1 + i) (by omega) ?_⟩
    rw [joinsRow_at, if_pos (by omega)]
    have e1 : 70 + (a + 1 + i) = 70 + a + 1 + i := by omega
    rw [e1]
  · refine go_more nd p 70 fun i hi => ⟨(70 + i) % 2, cut_of (j := i) (by omega) ?_⟩
    rw [joinsRow_at, if_pos (by omega)]
end
end
/-! ### the script's signs -/
/-- the k-th cell, cut to 62 figures -/
def cellAt (ns : List Int) (k : Nat) : Int := match ns[k]? with
  | some z => z % 10 ^ 62
  | none => 0
theorem cellAt_pos (ns : List Int) (k : Nat) : 0 ≤ cellAt ns k := by
  unfold cellAt
  split
  · exact Int.emod_nonneg _ (by decide)
  · exact Int.le_refl 0
/-- the k-th sign -/
def sgn (ns : List Int) (k : Nat) : Int := cellAt ns 0 % 10 ^ 29 + (1 + cellAt ns 1 % 100) * k % 101 * (1 + cellAt ns 1 % 10 ^ 27)
theorem mul_mod_ne : ∀ m : Fin 101, ∀ d : Fin 101, m.val ≠ 0 → d.val ≠ 0 → (m.val * d.val) % 101 ≠ 0 := by decide +kernel
theorem mul_mod_inj {m i j : Nat} (hm : 1 ≤ m) (hm2 : m ≤ 100) (hi : i ≤ 100) (hj : j ≤ 100) (h : (m * i) % 101 = (m * j) % 101) : i = j := by
  have key : ∀ i j : Nat, i ≤ 100 → j ≤ 100 → i < j → (m * i) % 101 ≠ (m * j) % 101 := fun i j _ hj hij e => by
    have z := mul_mod_ne ⟨m, by omega⟩ ⟨j - i, by omega⟩ (by show m ≠ 0; omega) (by show j - i ≠ 0; omega)
    refine z ?_
    show (m * (j - i)) % 101 = 0
    have e2 : m * j = m * i + m * (j - i) := by rw [← Nat.mul_add]; congr 1; omega
    rw [e2] at e
    omega
  rcases Nat.lt_trichotomy i j with z | z | z
  · exact absurd h (key i j hi hj z)
  · exact z
  · exact absurd h.symm (key j i hj hi z)
theorem sgn_sig (ns : List Int) : Sig (sgn ns) where
  pos := fun k => by
    have h1 : 0 ≤ cellAt ns 0 % 10 ^ 29 := Int.emod_nonneg _ (by decide)
    have h2 : 0 ≤ cellAt ns 1 % 10 ^ 27 := Int.emod_nonneg _ (by decide)
    have h3 : 0 ≤ (1 + cellAt ns 1 % 100) * (k : Int) % 101 := Int.emod_nonneg _ (by decide)
    have h4 : 0 ≤ (1 + cellAt ns 1 % 100) * (k : Int) % 101 * (1 + cellAt ns 1 % 10 ^ 27) := Int.mul_nonneg h3 (by omega)
    unfold sgn
    omega
  inj := fun i j hi hj h => by
    unfold sgn at h
    have h2 : 0 ≤ cellAt ns 1 % 10 ^ 27 := Int.emod_nonneg _ (by decide)
    have h5 : 0 ≤ cellAt ns 1 % 100 := Int.emod_nonneg _ (by decide)
    have h6 : cellAt ns 1 % 100 < 100 := Int.emod_lt_of_pos _ (by decide)
    have e : (1 + cellAt ns 1 % 100) * (i : Int) % 101 * (1 + cellAt ns 1 % 10 ^ 27) = (1 + cellAt ns 1 % 100) * (j : Int) % 101 * (1 + cellAt ns 1 % 10 ^ 27) := by
      generalize (1 + cellAt ns 1 % 100) * (i : Int) % 101 * (1 + cellAt ns 1 % 10 ^ 27) = a at h ⊢
      generalize (1 + cellAt ns 1 % 100) * (j : Int) % 101 * (1 + cellAt ns 1 % 10 ^ 27) = b at h ⊢
      omega
    have e2 := Int.eq_of_mul_eq_mul_right (by omega) e
    obtain ⟨m, hm⟩ : ∃ m : Nat, 1 + cellAt ns 1 % 100 = (m : Int) := ⟨(1 + cellAt ns 1 % 100).toNat, by omega⟩
    rw [hm] at e2
    have e3 : (m * i) % 101 = (m * j) % 101 := by exact_mod_cast e2
    exact mul_mod_inj (by omega) (by omega) hi hj e3
end Bh

namespace Bk
open PySem PySem.Spec PyProof.Rows L2 Bh
/-! ### the text by places -/
def top (i : Nat) : Stmt := PySem.Challenge.pw_bothhands_k05_goings.main.body.getD i (.Pass ⟨0, 0, 0, 0⟩)
abbrev sWhole : Stmt := top 8
abbrev sLook : Stmt := top 9
abbrev sInit : Stmt := inClass (top 10) 0
abbrev sPut : Stmt := inClass (top 10) 2
abbrev sGoings : Stmt := inClass (top 10) 3
abbrev sKind : Stmt := inClass (top 10) 4
abbrev sParts : Stmt := inClass (top 10) 7
abbrev sCell : Stmt := top 12
abbrev sSign : Stmt := top 13
abbrev sRow : Stmt := top 14
abbrev sKindL : Stmt := top 15
abbrev sTurned : Stmt := top 16
abbrev sRefused : Stmt := top 17
abbrev sGoes : Stmt := top 18
abbrev sLaw : Stmt := top 19
/-! ### kinds -/
def toldL : List Str := ["fore", "back", "num", "blank", "mark", "forein", "backin", "out"]
def joinedL : List Str := ["fore", "back", "num", "blank", "plain"]
def DK : Kinds Str where
  plain := "plain"
  mark := "mark"
  told := toldL
  joined := joinedL
  mt := by decide +kernel
  pm := by decide +kernel
  pj := by decide +kernel
  jt := by decide +kernel
  jm := by decide +kernel
/-! ### what stands in the heap -/
/-- the tuple of a join -/
def T3 (H : Hp) (v : V) (j : Tri) : Prop := ∃ t, v = .ref t ∧ H t = some (.tup [.int j.1, .int j.2.1, .int j.2.2])
/-- the tuple of a told sign -/
def TT (H : Hp) (v : V) (e : Int × Str × Int) : Prop := ∃ t, v = .ref t ∧ H t = some (.tup [.int e.1, .str e.2.1, .int e.2.2])
abbrev Js (H : Hp) : List V → List Tri → Prop := Paired (T3 H)
abbrev Ts (H : Hp) : List V → List (Int × Str × Int) → Prop := Paired (TT H)
/-- the dict of the told signs -/
def KnP (H : Hp) (kv : Key × V) (e : Int × Str × Int) : Prop := kv.1 = Sum.inl e.1 ∧ ∃ t, kv.2 = .ref t ∧ H t = some (.tup [.str e.2.1, .int e.2.2])
abbrev Kn (H : Hp) : List (Key × V) → List (Int × Str × Int) → Prop := Paired (KnP H)
/-- the dict of the wholes -/
def HvP (H : Hp) (kv : Key × V) (j : Tri) : Prop := kv.1 = Sum.inl j.1 ∧ ∃ t, kv.2 = .ref t ∧ H t = some (.tup [.int j.2.1, .int j.2.2])
abbrev Hv (H : Hp) : List (Key × V) → List Tri → Prop := Paired (HvP H)
/-- the tuples of H stand in H' -/
def Tups (H H' : Hp) : Prop := ∀ b xs, H b = some (.tup xs) → H' b = some (.tup xs)
theorem Same.tups {H H' : Hp} (s : Same H H') : Tups H H' := fun b xs e => s b _ e
theorem Tups.upd {H : Hp} {p : Addr} {o : HO} (h : ∀ xs, H p ≠ some (.tup xs)) : Tups H (upd H p o) := fun b xs e => by
  rw [upd_ne (fun z => h xs (by rw [← z]; exact e))]
  exact e
theorem Tups.trans {H H1 H2 : Hp} (a : Tups H H1) (b : Tups H1 H2) : Tups H H2 := fun c xs e => b c xs (a c xs e)
theorem Js.mono {H H' : Hp} (s : Tups H H') {xs : List V} {js : List Tri} (h : Js H xs js) : Js H' xs js := L2.Paired.mapP h fun _ _ ⟨t, e, q⟩ => ⟨t, e, s t _ q⟩
theorem Ts.mono {H H' : Hp} (s : Tups H H') {xs : List V} {js : List (Int × Str × Int)} (h : Ts H xs js) : Ts H' xs js := L2.Paired.mapP h fun _ _ ⟨t, e, q⟩ => ⟨t, e, s t _ q⟩
theorem Kn.mono {H H' : Hp} (s : Tups H H') {xs : List (Key × V)} {js : List (Int × Str × Int)} (h : Kn H xs js) : Kn H' xs js := L2.Paired.mapP h fun _ _ ⟨a, t, e, q⟩ => ⟨a, t, e, s t _ q⟩
theorem Hv.mono {H H' : Hp} (s : Tups H H') {xs : List (Key × V)} {js : List Tri} (h : Hv H xs js) : Hv H' xs js := L2.Paired.mapP h fun _ _ ⟨a, t, e, q⟩ => ⟨a, t, e, s t _ q⟩
theorem same_upd {H : Hp} {p : Addr} {o : HO} (h : H p = none) : Same H (upd H p o) := fun b x e => by
  rw [upd_ne (ne_of_none e h)]
  exact e
theorem Paired.app {α β : Type} {F : α → β → Prop} : ∀ {l₁ r₁ : List α} {l₂ r₂ : List β}, Paired F l₁ l₂ → Paired F r₁ r₂ → Paired F (l₁ ++ r₁) (l₂ ++ r₂)
  | _, _, _, _, .nil, h => h
  | _, _, _, _, .cons a t, h => .cons a (Paired.app t h)
theorem Paired.takeP {α β : Type} {F : α → β → Prop} : ∀ (n : Nat) {l₁ : List α} {l₂ : List β}, Paired F l₁ l₂ → Paired F (l₁.take n) (l₂.take n)
  | 0, _, _, _ => .nil
  | _ + 1, _, _, .nil => .nil
  | n + 1, _, _, .cons a t => .cons a (Paired.takeP n t)
theorem Paired.dropP {α β : Type} {F : α → β → Prop} : ∀ (n : Nat) {l₁ : List α} {l₂ : List β}, Paired F l₁ l₂ → Paired F (l₁.drop n) (l₂.drop n)
  | 0, _, _, h => h
  | _ + 1, _, _, .nil => .nil
  | n + 1, _, _, .cons _ t => Paired.dropP n t
theorem Paired.getL {α β : Type} {G : α → β → Prop} : ∀ {l₁ : List α} {l₂ : List β} {i : Nat} {a : α}, Paired G l₁ l₂ → l₁[i]? = some a → ∃ b, l₂[i]? = some b ∧ G a b
  | _, _, _, _, .nil, e => by simp at e
  | _, _, 0, _, .cons r _, e => ⟨_, rfl, by cases e; exact r⟩
  | _, _, i + 1, _, .cons _ t, e => Paired.getL (i := i) t e
theorem Paired.getR {α β : Type} {G : α → β → Prop} : ∀ {l₁ : List α} {l₂ : List β} {i : Nat} {b : β}, Paired G l₁ l₂ → l₂[i]? = some b → ∃ a, l₁[i]? = some a ∧ G a b
  | _, _, _, _, .nil, e => by simp at e
  | _, _, 0, _, .cons r _, e => ⟨_, rfl, by cases e; exact r⟩
  | _, _, i + 1, _, .cons _ t, e => Paired.getR (i := i) t e
/-- an arrangement of the left list arranges the right one -/
theorem Paired.perm {α β : Type} {F : α → β → Prop} {l₁ l₁' : List α} (p : l₁'.Perm l₁) : ∀ {l₂ : List β}, Paired F l₁ l₂ → ∃ l₂', Paired F l₁' l₂' ∧ l₂'.Perm l₂ := by
  induction p with
  | nil => intro l₂ h; exact ⟨l₂, h, .refl _⟩
  | cons x _ ih =>
    intro l₂ h
    cases h with
    | cons a t =>
      obtain ⟨l', h', q⟩ := ih t
      exact ⟨_ :: l', .cons a h', q.cons _⟩
  | swap x y l =>
    intro l₂ h
    cases h with
    | cons a t =>
      cases t with
      | cons b u => exact ⟨_, .cons b (.cons a u), .swap _ _ _⟩
  | trans _ _ ih1 ih2 =>
    intro l₂ h
    obtain ⟨m, hm, pm⟩ := ih2 h
    obtain ⟨k, hk, pk⟩ := ih1 hm
    exact ⟨k, hk, pk.trans pm⟩
/-! ### looks into the dicts -/
theorem kn_look {H : Hp} : ∀ {kvs : List (Key × V)} {told : List (Int × Str × Int)} {x : Int}, Kn H kvs told →
    (look told x = none → valV kvs (Sum.inl x) = none) ∧ (∀ c r, look told x = some (c, r) → ∃ t, valV kvs (Sum.inl x) = some (.ref t) ∧ H t = some (.tup [.str c, .int r]))
  | _, _, x, .nil => ⟨fun _ => valV_nil, fun _ _ h => by cases h⟩
  | p :: kr, e :: tr, x, .cons ⟨a, t, b, q⟩ u => by
    have ih := kn_look (x := x) u
    by_cases c : e.1 = x
    · rw [look_pos c, valV_pos (show p.1 = Sum.inl x by rw [a, c])]
      refine ⟨fun z => (nomatch z), fun c' r' z => ⟨t, congrArg some b, ?_⟩⟩
      have z' := Option.some.inj z
      rw [z'] at q
      exact q
    · rw [look_neg c, valV_neg (show ¬ p.1 = Sum.inl x by rw [a]; exact fun z => c (Sum.inl.inj z))]
      exact ih
theorem hv_look {H : Hp} : ∀ {kvs : List (Key × V)} {js : List Tri} {x : Int}, Hv H kvs js →
    (look js x = none → valV kvs (Sum.inl x) = none) ∧ (∀ b m, look js x = some (b, m) → ∃ t, valV kvs (Sum.inl x) = some (.ref t) ∧ H t = some (.tup [.int b, .int m]))
  | _, _, x, .nil => ⟨fun _ => valV_nil, fun _ _ h => by cases h⟩
  | p :: kr, e :: tr, x, .cons ⟨a, t, b, q⟩ u => by
    have ih := hv_look (x := x) u
    by_cases c : e.1 = x
    · rw [look_pos c, valV_pos (show p.1 = Sum.inl x by rw [a, c])]
      refine ⟨fun z => (nomatch z), fun c' r' z => ⟨t, congrArg some b, ?_⟩⟩
      have z' := Option.some.inj z
      rw [z'] at q
      exact q
    · rw [look_neg c, valV_neg (show ¬ p.1 = Sum.inl x by rw [a]; exact fun z => c (Sum.inl.inj z))]
      exact ih
/-- the dict of the pairs -/
def mkv (js : List Tri) : List (List Key × V) := js.map fun j => ([Sum.inl j.2.1, Sum.inl j.2.2], V.int j.1)
theorem mkv_none : ∀ {js : List Tri} {b m : Int}, (∀ j ∈ js, j.2 ≠ (b, m)) → valV (mkv js) [Sum.inl b, Sum.inl m] = none
  | [], _, _, _ => rfl
  | j :: r, b, m, h => by
    have h1 : ¬ ([Sum.inl j.2.1, Sum.inl j.2.2] : List Key) = [Sum.inl b, Sum.inl m] := fun z => by
      injection z with z1 z2
      injection z2 with z2 _
      exact h j List.mem_cons_self (Prod.ext (Sum.inl.inj z1) (Sum.inl.inj z2))
    show valV (([Sum.inl j.2.1, Sum.inl j.2.2], V.int j.1) :: mkv r) _ = none
    rw [valV_neg h1]
    exact mkv_none fun k hk => h k (List.mem_cons_of_mem _ hk)
/-! ### a Book's four attributes -/
def bf (a b c d : Addr) : List (Str × V) := [("known", .ref a), ("others", .ref b), ("halves", .ref c), ("made", .ref d)]
theorem lk_here {k : Str} {v : V} {r : List (Str × V)} : List.lookup k ((k, v) :: r) = some v := by
  have e : (k == k) = true := beq_self_eq_true k
  simp only [List.lookup, e]
theorem lk_past {k g : Str} {v : V} {r : List (Str × V)} (h : (k == g) = false) : List.lookup k ((g, v) :: r) = List.lookup k r := by
  simp only [List.lookup, h]
theorem put_here {f : Str} {v x : V} {r : List (Str × V)} : putF f v ((f, x) :: r) = (f, v) :: r := if_pos rfl
theorem put_past {f g : Str} {v x : V} {r : List (Str × V)} (h : ¬ g = f) : putF f v ((g, x) :: r) = (g, x) :: putF f v r := if_neg h
theorem bf_known (a b c d : Addr) : (bf a b c d).lookup ("known" : Str) = some (.ref a) := lk_here
theorem bf_others (a b c d : Addr) : (bf a b c d).lookup ("others" : Str) = some (.ref b) := (lk_past (by decide +kernel)).trans lk_here
theorem bf_halves (a b c d : Addr) : (bf a b c d).lookup ("halves" : Str) = some (.ref c) := (lk_past (by decide +kernel)).trans ((lk_past (by decide +kernel)).trans lk_here)
theorem bf_made (a b c d : Addr) : (bf a b c d).lookup ("made" : Str) = some (.ref d) := (lk_past (by decide +kernel)).trans ((lk_past (by decide +kernel)).trans ((lk_past (by decide +kernel)).trans lk_here))
theorem bf_no {m : Str} (a b c d : Addr) (h1 : (m == ("known" : Str)) = false) (h2 : (m == ("others" : Str)) = false) (h3 : (m == ("halves" : Str)) = false) (h4 : (m == ("made" : Str)) = false) : (bf a b c d).lookup m = none :=
  (lk_past h1).trans ((lk_past h2).trans ((lk_past h3).trans ((lk_past h4).trans rfl)))
theorem bf_new (a b c d : Addr) : putF "made" (.ref d) (putF "halves" (.ref c) (putF "others" (.ref b) (putF "known" (.ref a) []))) = bf a b c d := by
  have e1 : putF "known" (.ref a) [] = [(("known" : Str), V.ref a)] := rfl
  have e2 : putF "others" (.ref b) [(("known" : Str), V.ref a)] = [(("known" : Str), V.ref a), ("others", .ref b)] := (put_past (by decide +kernel)).trans rfl
  have e3 : putF "halves" (.ref c) [(("known" : Str), V.ref a), ("others", .ref b)] = [(("known" : Str), V.ref a), ("others", .ref b), ("halves", .ref c)] := (put_past (by decide +kernel)).trans (congrArg _ ((put_past (by decide +kernel)).trans rfl))
  rw [e1, e2, e3]
  exact (put_past (by decide +kernel)).trans (congrArg _ ((put_past (by decide +kernel)).trans (congrArg _ ((put_past (by decide +kernel)).trans rfl))))
/-! ### what the top has written -/
structure Txt (K : PySem.W.Frag) (mg : Str → Option Value) (C CH CN : Addr) : Prop where
  cl : Cls K C
  n1 : NoAttr K C "known"
  n2 : NoAttr K C "others"
  n3 : NoAttr K C "halves"
  n4 : NoAttr K C "made"
  gC : mg "Book" = some (.ref C)
  gN : mg "NoBook" = some (.ref CN)
  gH : mg "HandsError" = some (.ref CH)
  xN : PySem.W.excIn K CN [.type "ValueError", .type "Exception", .type "BaseException", .type "object"] "ValueError.__new__" = true
  kN : PySem.W.keepIn K (.ref CN) = true
  bN : PySem.W.subIn K (.ref CN) (.type "BaseException") = some true
  tN : PySem.W.typeIn K (.ref CN) = some (.type "type")
  eN : PySem.W.exmOne K (.ref CN) (.ref CH) = some true
  ec : ExcC K CN
  mlen : mg "len" = none
  mran : mg "range" = none
  misi : mg "isinstance" = none
  mint : mg "int" = none
  mboo : mg "bool" = none
  told : ∃ a, mg "TOLD" = some (.ref a) ∧ ∀ H, SqT K H a (toldL.map V.str)
  join : ∃ a, mg "JOINED" = some (.ref a) ∧ ∀ H, SqT K H a (joinedL.map V.str)
  most : ∃ t, mg "MOST_GOINGS" = some (.int 7 t)
end Bk

namespace Bk
open PySem PySem.Spec PyProof.Rows L2 Bh
section
variable {P : Program} {w : World} {K : PySem.W.Frag} {mg : Str → Option Value} {base : Heap} {C CH CN : Addr}
/-! ### is_whole -/
def spWhole : Sp := fun vs H Q _ => ∃ x : Int, vs = [.int x] ∧ Q (.bl (decide (0 ≤ x))) H
theorem scW : FnScope ["thing"] ["thing"] (defScope sWhole) := ⟨rfl, rfl, rfl, by decide +kernel, rfl, by decide +kernel, by decide +kernel⟩
theorem ok_whole {f : Addr} {fd : FuncData} (F : Fun K "is_whole" "is_whole" sWhole f fd) (T : Txt K mg C CH CN) : FnOk P w K mg base CX0 1 f fd ["thing"] spWhole := by
  refine F.ok scW (fun vs H Q E h => ?_) (fun cdv A outer s H vs Q E hr h => ?_)
  · obtain ⟨x, rfl, _⟩ := h
    rfl
  · obtain ⟨x, rfl, q⟩ := h
    refine ⟨_, pss_one (ps_ret (pe_and
      (pe_callB call_isi (by rfl) T.misi boot_isinstance (pa_cons (pv 0) (pa_cons (pe_bltn (v := .ty "int") (by rfl) T.mint boot_int rfl) pa_nil)))
      (pe_and (pe_not (pe_callB call_isi (by rfl) T.misi boot_isinstance (pa_cons (pv 0) (pa_cons (pe_bltn (v := .ty "bool") (by rfl) T.mboo boot_bool rfl) pa_nil))))
      (pe_one (pe_cmpR op_ge (pv 0) pe_int (nomark _)))))), ?_⟩
    refine ⟨_, rfl, _, _, _, _, true, rfl, .ty "int", .base (.int x), kit_ty (by decide +kernel), true, rfl, iteT ?_⟩
    refine ⟨_, rfl, _, _, _, _, false, rfl, .ty "bool", .base (.int x), kit_ty (by decide +kernel), false, rfl, true, rfl, iteT ?_⟩
    exact ⟨_, rfl, _, _, rfl, rfl, q⟩
/-! ### look_at_told -/
theorem told_in : ∀ k ∈ toldL, inV (.str k) (toldL.map V.str) = true := by decide +kernel
theorem joined_in : ∀ k ∈ joinedL, inV (.str k) (joinedL.map V.str) = true := by decide +kernel
theorem told_flat : (toldL.map V.str).all flatV = true := by decide +kernel
theorem joined_flat : (joinedL.map V.str).all flatV = true := by decide +kernel
def spLook : Sp := fun vs H Q _ => ∃ (x : Int) (k : Str) (r : Int) (d : Addr) (kvs : List (Key × V)), vs = [.int x, .str k, .int r, .ref d] ∧ H d = some (.dK kvs) ∧ valV kvs (Sum.inl x) = none ∧ k ∈ toldL ∧ 0 ≤ x ∧ 0 ≤ r ∧ (k = "mark" ↔ 0 < r) ∧ Q .non H
theorem scK : FnScope ["sign", "kind", "rank", "known"] ["sign", "kind", "rank", "known"] (defScope sLook) := ⟨rfl, rfl, rfl, by decide +kernel, rfl, by decide +kernel, by decide +kernel⟩
theorem ok_look {f fW : Addr} {fd fdW : FuncData} (F : Fun K "look_at_told" "look_at_told" sLook f fd) (T : Txt K mg C CH CN) (FW : Fun K "is_whole" "is_whole" sWhole fW fdW) (gW : mg "is_whole" = some (.ref fW)) (bW : Binds K fdW ["thing"] []) :
    FnOk P w K mg base CX0 2 f fd ["sign", "kind", "rank", "known"] spLook := by
  have GW : FnOk P w K mg base CX0 1 fW fdW ["thing"] spWhole := ok_whole FW T
  obtain ⟨aT, gT, hT⟩ := T.told
  refine F.ok scK (fun vs H Q E h => ?_) (fun cdv A outer s H vs Q E hr h => ?_)
  · obtain ⟨x, k, r, d, kvs, rfl, _⟩ := h
    rfl
  · obtain ⟨x, k, r, d, kvs, rfl, hd, hn, hk, hx, hr0, hm, q⟩ := h
    have hu := hu_of hr
    refine ⟨_, pss_cons (ps_if (PW.pt (pw_or (pt_not (pt_val (pe_call GW hr (by rfl) gW FW.kp bW .nil pass0 (pa_cons (pv 0) pa_nil))))
        (pw_or (pt_cmp (pc_din hu (pv 0) (pv 3)))
        (pw_or (pt_cmpR op_notIn_seq (pv 1) (pe_glob (v := .ref aT) (by rfl) gT rfl) (by rfl))
        (pw_or1 (pt_not (pt_val (pe_call GW hr (by rfl) gW FW.kp bW .nil pass0 (pa_cons (pv 2) pa_nil)))))))))
        (pss_one ps_never) pss_nil)
      (pss_one (ps_if (pt_cmpR op_ne (pe_cmpR op_eq (pv 1) pe_str (nomark _)) (pe_cmpR op_gt (pv 2) pe_int (nomark _)) (nomark _)) (pss_one ps_never) pss_nil)), ?_⟩
    refine ⟨_, rfl, x, rfl, _, rfl, ?_⟩
    rw [decide_eq_true hx]
    refine iteF ⟨_, rfl, _, rfl, d, _, rfl, DGet.k (k := Sum.inl x) hd, _, rfl, ?_⟩
    rw [hn]
    refine iteF ⟨_, rfl, _, _, rfl, .inr (hT _), rfl, told_flat, _, rfl, ?_⟩
    show if (!inV (.str k) (toldL.map V.str)) = true then _ else _
    rw [told_in k hk]
    refine iteF ⟨_, rfl, r, rfl, _, rfl, ?_⟩
    rw [decide_eq_true hr0]
    refine iteF ?_
    refine ⟨_, rfl, rfl, _, rfl, _, _, rfl, rfl, rfl, _, rfl, iteNS ?_ q⟩
    show V.bl (decide (V.str k = V.str "mark")) = V.bl (decide (0 < r))
    by_cases c : k = "mark"
    · rw [decide_eq_true (hm.mp c), decide_eq_true (congrArg V.str c)]
    · have c2 : ¬ V.str k = V.str "mark" := fun z => c (V.str.inj z)
      rw [decide_eq_false fun z => c (hm.mpr z), decide_eq_false c2]
/-! ### kind -/
def spKind (C : Addr) : Sp := fun vs H Q _ => ∃ (p : Addr) (x : Int) (dx a b c d : Addr) (kk : List (Key × V)) (told : List (Int × Str × Int)), vs = [.ref p, .int x] ∧ H p = some (.ins C dx (bf a b c d)) ∧ H a = some (.dK kk) ∧ Kn H kk told ∧
  ∀ H', Same H H' → Q (.str (Bh.kindOf "plain" told x)) H'
theorem scKd : FnScope ["self", "sign"] ["self", "sign"] (defScope sKind) := ⟨rfl, rfl, rfl, by decide +kernel, rfl, by decide +kernel, by decide +kernel⟩
theorem ok_kind {f : Addr} {fd : FuncData} (F : Fun K "kind" "Book.kind" sKind f fd) (T : Txt K mg C CH CN) : FnOk P w K mg base CX0 1 f fd ["self", "sign"] (spKind C) := by
  refine F.ok scKd (fun vs H Q E h => ?_) (fun cdv A outer s H vs Q E hr h => ?_)
  · obtain ⟨p, x, dx, a, b, c, d, kk, told, rfl, _⟩ := h
    rfl
  · obtain ⟨p, x, dx, a, b, c, d, kk, told, rfl, hp, ha, hk, q⟩ := h
    have hu := hu_of hr
    refine ⟨_, pss_one (ps_ret (pe_ix ix_tup (pe_dget2 hu (pe_fld (pv 0) rfl) (pv 1) (pe_tup (pa_cons pe_str (pa_cons pe_int pa_nil))) ⟨rfl, rfl, rfl, rfl⟩) pe_int (fun _ _ => rfl))), ?_⟩
    refine ⟨_, rfl, p, C, dx, _, _, rfl, hp, T.cl, T.n1, bf_known _ _ _ _, a, rfl, .inl ⟨kk, .inl ha⟩, _, rfl, (by show 2 ≤ sizeLine; decide), fun t ht => ?_⟩
    have sm : Same H (upd H t (.tup [.str "plain", .int 0])) := same_upd ht
    refine ⟨_, DGet.k (k := Sum.inl x) (sm _ _ ha), ?_⟩
    obtain ⟨l1, l2⟩ := kn_look (x := x) hk
    cases e : look told x with
    | none =>
      rw [l1 e]
      refine ⟨t, _, 0, .str "plain", rfl, rfl, SqT.of upd_same, atI_nat (j := 0) rfl, ?_⟩
      have z := q _ sm
      unfold Bh.kindOf at z
      rw [e] at z
      exact z
    | some y =>
      obtain ⟨c', r'⟩ := y
      obtain ⟨t', e1, e2⟩ := l2 c' r' e
      rw [e1]
      refine ⟨t', _, 0, .str c', rfl, rfl, SqT.of (sm _ _ e2), atI_nat (j := 0) rfl, ?_⟩
      have z := q _ sm
      unfold Bh.kindOf at z
      rw [e] at z
      exact z
/-! ### parts -/
def spParts (C : Addr) : Sp := fun vs H Q _ => ∃ (p : Addr) (x : Int) (dx a b c d : Addr) (hk : List (Key × V)) (js : List Tri), vs = [.ref p, .int x] ∧ H p = some (.ins C dx (bf a b c d)) ∧ H c = some (.dK hk) ∧ Hv H hk js ∧
  (look js x = none → Q .non H) ∧ ∀ y m t, look js x = some (y, m) → H t = some (.tup [.int y, .int m]) → Q (.ref t) H
theorem scPa : FnScope ["self", "sign"] ["self", "sign"] (defScope sParts) := ⟨rfl, rfl, rfl, by decide +kernel, rfl, by decide +kernel, by decide +kernel⟩
theorem ok_parts {f : Addr} {fd : FuncData} (F : Fun K "parts" "Book.parts" sParts f fd) (T : Txt K mg C CH CN) : FnOk P w K mg base CX0 1 f fd ["self", "sign"] (spParts C) := by
  refine F.ok scPa (fun vs H Q E h => ?_) (fun cdv A outer s H vs Q E hr h => ?_)
  · obtain ⟨p, x, dx, a, b, c, d, hk, js, rfl, _⟩ := h
    rfl
  · obtain ⟨p, x, dx, a, b, c, d, hk, js, rfl, hp, hc, hv, q1, q2⟩ := h
    have hu := hu_of hr
    refine ⟨_, pss_one (ps_ret (pe_dget1 hu (pe_fld (pv 0) rfl) (pv 1) ⟨rfl, rfl, rfl, rfl⟩)), ?_⟩
    refine ⟨_, rfl, p, C, dx, _, _, rfl, hp, T.cl, T.n3, bf_halves _ _ _ _, c, rfl, .inl ⟨hk, .inl hc⟩, _, rfl, _, DGet.k (k := Sum.inl x) hc, ?_⟩
    obtain ⟨l1, l2⟩ := hv_look (x := x) hv
    cases e : look js x with
    | none =>
      rw [l1 e]
      exact q1 e
    | some y =>
      obtain ⟨b', m'⟩ := y
      obtain ⟨t', e1, e2⟩ := l2 b' m' e
      rw [e1]
      exact q2 b' m' t' e e2
end
end Bk

namespace Bk
open PySem PySem.Spec PyProof.Rows L2 Bh
section
variable {P : Program} {w : World} {K : PySem.W.Frag} {mg : Str → Option Value} {base : Heap} {C CH CN : Addr}
abbrev kd (told : List (Int × Str × Int)) (x : Int) : Str := Bh.kindOf ("plain" : Str) told x
/-! ### look_at_goings -/
def spGo (C CN : Addr) : Sp := fun vs H Q E => ∃ (p : Addr) (x : Int) (dx a b c d : Addr) (hk : List (Key × V)) (js : List Tri), vs = [.ref p, .int x] ∧ H p = some (.ins C dx (bf a b c d)) ∧ Rd H c (.dK hk) ∧ Hv H hk js ∧
  (Go js 8 x → E (.ref CN) none H) ∧ (¬ Go js 8 x → Q .non H)
theorem scG : FnScope ["self", "whole", "many"] ["self", "whole"] (defScope sGoings) := ⟨rfl, rfl, rfl, by decide +kernel, rfl, by decide +kernel, by decide +kernel⟩
theorem ok_goings {f : Addr} {fd : FuncData} (F : Fun K "look_at_goings" "Book.look_at_goings" sGoings f fd) (T : Txt K mg C CH CN) : FnOk P w K mg base (L2.CX P w) 1 f fd ["self", "whole"] (spGo C CN) := by
  obtain ⟨tM, gM⟩ := T.most
  refine F.okX scG (fun vs H Q E h => ?_) (fun cdv A outer s H vs Q E hr h => ?_)
  · obtain ⟨p, x, dx, a, b, c, d, hk, js, rfl, _⟩ := h
    rfl
  · obtain ⟨p, x, dx, a, b, c, d, hk, js, rfl, hp, hc, hv, kE, kQ⟩ := h
    have hu := hu_of hr
    refine ⟨_, pss_cons (ps_set (i := 2) scG.nd rfl (Or.inl rfl) pe_int)
      (pss_one (ps_while (passes_of rfl) (pt_cmp (pc_din hu (pv 1) (pe_fld (pv 0) rfl)))
        (pss_cons (ps_set (i := 1) scG.nd rfl (Or.inl rfl) (pe_ix ix_tup (pe_dget hu (pe_fld (pv 0) rfl) (pv 1) (fun _ _ => rfl)) pe_int (fun _ _ => rfl)))
        (pss_cons (ps_aug (i := 2) scG.nd rfl (Or.inl rfl) pe_int ip_add)
        (pss_one (ps_if (pt_cmpR op_gt (pv 2) (pe_glob (v := .int 7) (by rfl) gM ⟨_, rfl⟩) (nomark _))
          (pss_one (ps_raise rfl (takes_of rfl rfl rfl rfl) (pmk_own PySem.F.excBase_ValueError T.xN T.gN T.kN (raises_own T.bN T.tN) (by rfl)))) pss_nil)))))), ?_⟩
    refine ⟨fun m σ H' => H' = H ∧ ∃ (y : Int) (i : Nat), m = 8 - i ∧ i ≤ 7 ∧ σ = [some (.ref p), some (.int y), some (.int (i : Int))] ∧ (Go js (8 - i) y ↔ Go js 8 x), ⟨8, rfl, x, 0, rfl, Nat.zero_le _, rfl, Iff.rfl⟩, ?_⟩
    rintro m σ H' ⟨rfl, y, i, rfl, hi, rfl, hg⟩
    obtain ⟨l1, l2⟩ := hv_look (x := y) hv
    refine ⟨_, rfl, _, rfl, p, C, dx, _, _, rfl, hp, T.cl, T.n3, bf_halves _ _ _ _, c, _, rfl, .inl ⟨hk, Sum.inl y, hc, rfl, rfl⟩, _, rfl, ?_⟩
    obtain ⟨n, hn⟩ : ∃ n, 8 - i = n + 1 := ⟨7 - i, by omega⟩
    cases e : look js y with
    | none =>
      rw [l1 e]
      refine iteF (kQ fun z => ?_)
      have z2 := hg.mpr z
      rw [hn] at z2
      obtain ⟨b', m', e', _⟩ := z2
      rw [e] at e'
      cases e'
    | some v =>
      obtain ⟨b', m'⟩ := v
      obtain ⟨t', e1, e2⟩ := l2 b' m' e
      rw [e1]
      refine iteT ?_
      have hg' : Go js n b' ↔ Go js 8 x := by
        rw [← hg, hn]
        exact ⟨fun z => ⟨b', m', e, z⟩, fun ⟨b2, m2, e3, z⟩ => by
          rw [e] at e3
          cases e3
          exact z⟩
      refine ⟨fun σ' H'' => H'' = H' ∧ i + 1 ≤ 7 ∧ σ' = [some (.ref p), some (.int b'), some (.int ((i + 1 : Nat) : Int))], fun σ' H'' hN => ?_, ?_⟩
      · obtain ⟨rfl, h7, rfl⟩ := hN
        refine ⟨8 - (i + 1), by omega, rfl, b', i + 1, rfl, h7, rfl, ?_⟩
        have e8 : 8 - (i + 1) = n := by omega
        rw [e8]
        exact hg'
      · refine ⟨_, rfl, p, C, dx, _, _, rfl, hp, T.cl, T.n3, bf_halves _ _ _ _, _, rfl, c, .ref t', rfl, .inl ⟨hk, Sum.inl y, hc, rfl, e1.symm⟩, t', _, 0, .int b', rfl, rfl, SqT.of e2, atI_nat (j := 0) rfl, ?_⟩
        refine ⟨_, rfl, (i : Int), 1, rfl, rfl, _, rfl, _, _, rfl, rfl, _, rfl, ?_⟩
        refine ite2 (fun z => ?_) (fun z => ?_)
        · have z2 : (7 : Int) < (i : Int) + 1 := of_decide_eq_true z
          have hn0 : n = 0 := by omega
          rw [hn0] at hg'
          exact kE (hg'.mp trivial)
        · have z2 : ¬ (7 : Int) < (i : Int) + 1 := fun q => z (decide_eq_true q)
          exact ⟨rfl, by omega, rfl⟩
/-! ### put_join -/
/-- a book in the making at p -/
structure BookIn (C : Addr) (H : Hp) (p dx a b c d : Addr) (kk hk : List (Key × V)) (told : List (Int × Str × Int)) (js : List Tri) : Prop where
  ob : H p = some (.ins C dx (bf a b c d))
  ac : a ≠ c
  ka : H a = some (.dK kk)
  kn : Kn H kk told
  hb : H c = some (.dK hk)
  hv : Hv H hk js
  md : H d = some (.dT (mkv js))
theorem BookIn.same {C : Addr} {H H' : Hp} {p dx a b c d : Addr} {kk hk : List (Key × V)} {told : List (Int × Str × Int)} {js : List Tri} (B : BookIn C H p dx a b c d kk hk told js) (s : Same H H') : BookIn C H' p dx a b c d kk hk told js :=
  ⟨s _ _ B.ob, B.ac, s _ _ B.ka, B.kn.mono (Same.tups s), s _ _ B.hb, B.hv.mono (Same.tups s), s _ _ B.md⟩
def spPut (C : Addr) : Sp := fun vs H Q _ => ∃ (p dx a b c d : Addr) (kk hk : List (Key × V)) (told : List (Int × Str × Int)) (js : List Tri) (wh bs mk : Int), vs = [.ref p, .int wh, .int bs, .int mk] ∧ BookIn C H p dx a b c d kk hk told js ∧
  0 ≤ wh ∧ 0 ≤ bs ∧ 0 ≤ mk ∧ kd told mk = "mark" ∧ kd told bs ∈ joinedL ∧ kd told wh = kd told bs ∧ look js wh = none ∧ (∀ e ∈ js, e.2 ≠ (bs, mk)) ∧ js.length ≤ 1000 ∧
  ∀ (H' : Hp) (hk' : List (Key × V)), BookIn C H' p dx a b c d kk hk' told (js ++ [(wh, bs, mk)]) → (∀ q o, H q = some o → q ≠ c → q ≠ d → H' q = some o) → Q .non H'
theorem scP : FnScope ["self", "whole", "base", "mark"] ["self", "whole", "base", "mark"] (defScope sPut) := ⟨rfl, rfl, rfl, by decide +kernel, rfl, by decide +kernel, by decide +kernel⟩
theorem ok_put {f fW fK : Addr} {fd fdW fdK : FuncData} (F : Fun K "put_join" "Book.put_join" sPut f fd) (T : Txt K mg C CH CN) (FW : Fun K "is_whole" "is_whole" sWhole fW fdW) (gW : mg "is_whole" = some (.ref fW)) (bW : Binds K fdW ["thing"] [])
    (FK : Fun K "kind" "Book.kind" sKind fK fdK) (bK : Binds K fdK ["self", "sign"] []) (mK : Meth K C "kind" fK) : FnOk P w K mg base CX0 2 f fd ["self", "whole", "base", "mark"] (spPut C) := by
  have GW : FnOk P w K mg base CX0 1 fW fdW ["thing"] spWhole := ok_whole FW T
  have GK : FnOk P w K mg base CX0 1 fK fdK ["self", "sign"] (spKind C) := ok_kind FK T
  obtain ⟨aJ, gJ, hJ⟩ := T.join
  refine F.ok scP (fun vs H Q E h => ?_) (fun cdv A outer s H vs Q E hr h => ?_)
  · obtain ⟨p, dx, a, b, c, d, kk, hk, told, js, wh, bs, mk, rfl, _⟩ := h
    rfl
  · obtain ⟨p, dx, a, b, c, d, kk, hk, told, js, wh, bs, mk, rfl, B, h1, h2, h3, km, kb, kw, nw, np, hl, q⟩ := h
    have hu := hu_of hr
    refine ⟨_, pss_cons (ps_if (PW.pt (pw_or (pt_not (pt_val (pe_call GW hr (by rfl) gW FW.kp bW .nil pass0 (pa_cons (pv 1) pa_nil))))
        (pw_or (pt_not (pt_val (pe_call GW hr (by rfl) gW FW.kp bW .nil pass0 (pa_cons (pv 2) pa_nil))))
        (pw_or1 (pt_not (pt_val (pe_call GW hr (by rfl) gW FW.kp bW .nil pass0 (pa_cons (pv 3) pa_nil)))))))) (pss_one ps_never) pss_nil)
      (pss_cons (ps_if (PW.pt (pw_or (pt_cmpR op_ne (pe_meth (pv 0) T.cl mK GK hr bK .nil pass0 (pa_cons (pv 3) pa_nil)) pe_str (nomark _))
        (pw_or (pt_cmpR op_notIn_seq (pe_meth (pv 0) T.cl mK GK hr bK .nil pass0 (pa_cons (pv 2) pa_nil)) (pe_glob (v := .ref aJ) (by rfl) gJ rfl) (by rfl))
        (pw_or1 (pt_cmpR op_ne (pe_meth (pv 0) T.cl mK GK hr bK .nil pass0 (pa_cons (pv 1) pa_nil)) (pe_meth (pv 0) T.cl mK GK hr bK .nil pass0 (pa_cons (pv 2) pa_nil)) (nomark _)))))) (pss_one ps_never) pss_nil)
      (pss_cons (ps_if (PW.pt (pw_or (pt_cmp (pc_din hu (pv 1) (pe_fld (pv 0) rfl))) (pw_or1 (pt_cmp (pc_din hu (pe_tup (pa_cons (pv 2) (pa_cons (pv 3) pa_nil))) (pe_fld (pv 0) rfl)))))) (pss_one ps_never) pss_nil)
      (pss_cons (ps_dput hu (pe_fld (pv 0) rfl) (pv 1) (pe_tup (pa_cons (pv 2) (pa_cons (pv 3) pa_nil))) rfl)
      (pss_one (ps_dput hu (pe_fld (pv 0) rfl) (pe_tup (pa_cons (pv 2) (pa_cons (pv 3) pa_nil))) (pv 1) rfl))))), ?_⟩
    refine ⟨_, rfl, wh, rfl, _, rfl, ?_⟩
    rw [decide_eq_true h1]
    refine iteF ⟨_, rfl, bs, rfl, _, rfl, ?_⟩
    rw [decide_eq_true h2]
    refine iteF ⟨_, rfl, mk, rfl, _, rfl, ?_⟩
    rw [decide_eq_true h3]
    refine iteF ?_
    have no : (bf a b c d).lookup ("kind" : Str) = none := bf_no a b c d (by decide +kernel) (by decide +kernel) (by decide +kernel) (by decide +kernel)
    refine ⟨_, rfl, p, dx, _, rfl, B.ob, no, _, rfl, p, mk, dx, a, b, c, d, kk, told, rfl, B.ob, B.ka, B.kn, fun H1 s1 => ?_⟩
    have B1 := B.same s1
    refine ⟨rfl, _, rfl, iteNS (congrArg V.str km) ?_⟩
    refine ⟨_, rfl, p, dx, _, rfl, B1.ob, no, _, rfl, p, bs, dx, a, b, c, d, kk, told, rfl, B1.ob, B1.ka, B1.kn, fun H2 s2 => ?_⟩
    have B2 := B1.same s2
    refine ⟨_, _, rfl, .inr (hJ _), rfl, joined_flat, _, rfl, ?_⟩
    show if (!inV (.str (kd told bs)) (joinedL.map V.str)) = true then _ else _
    rw [joined_in _ kb]
    refine iteF ?_
    refine ⟨_, rfl, p, dx, _, rfl, B2.ob, no, _, rfl, p, wh, dx, a, b, c, d, kk, told, rfl, B2.ob, B2.ka, B2.kn, fun H3 s3 => ?_⟩
    have B3 := B2.same s3
    refine ⟨_, rfl, p, dx, _, rfl, B3.ob, no, _, rfl, p, bs, dx, a, b, c, d, kk, told, rfl, B3.ob, B3.ka, B3.kn, fun H4 s4 => ?_⟩
    have B4 := B3.same s4
    refine ⟨rfl, _, rfl, iteNS (congrArg V.str kw) ?_⟩
    have s04 : Same H H4 := ((s1.trans s2).trans s3).trans s4
    obtain ⟨l1, _⟩ := hv_look (x := wh) B4.hv
    have ln := l1 nw
    -- whole in self.halves or (base, mark) in self.made
    refine ⟨_, rfl, _, rfl, p, C, dx, _, _, rfl, B4.ob, T.cl, T.n3, bf_halves _ _ _ _, c, _, rfl, DGet.k (k := Sum.inl wh) B4.hb, _, rfl, ?_⟩
    rw [ln]
    refine iteF ⟨_, rfl, _, rfl, (by show 2 ≤ sizeLine; decide), fun t1 n1 => ?_⟩
    have s5 : Same H4 (upd H4 t1 (.tup [.int bs, .int mk])) := same_upd n1
    have B5 := B4.same s5
    refine ⟨_, rfl, p, C, dx, _, _, rfl, B5.ob, T.cl, T.n4, bf_made _ _ _ _, d, _, rfl, DGet.t (k := [Sum.inl bs, Sum.inl mk]) B5.md upd_same, _, rfl, ?_⟩
    rw [mkv_none np]
    refine iteF ?_
    -- self.halves[whole] = (base, mark)
    generalize (upd H4 t1 (.tup [.int bs, .int mk])) = H5 at s5 B5
    refine ⟨_, rfl, _, rfl, (by show 2 ≤ sizeLine; decide), fun t2 n2 => ?_⟩
    have s6 : Same H5 (upd H5 t2 (.tup [.int bs, .int mk])) := same_upd n2
    have B6 := B5.same s6
    have e6 : (upd H5 t2 (.tup [.int bs, .int mk])) t2 = some (.tup [.int bs, .int mk]) := upd_same
    generalize (upd H5 t2 (.tup [.int bs, .int mk])) = H6 at s6 B6 e6
    have lk : hk.length = js.length := Paired.length B6.hv
    refine ⟨_, rfl, p, C, dx, _, _, rfl, B6.ob, T.cl, T.n3, bf_halves _ _ _ _, _, rfl, c, _, rfl, DPut.k (k := Sum.inl wh) B6.hb (small1000 (by omega)), ?_⟩
    have hcx : ∀ xs, H6 c ≠ some (.tup xs) := fun xs z => by rw [B6.hb] at z; cases z
    have pc : p ≠ c := ne_of B6.ob B6.hb (by intro z; cases z)
    have dc : d ≠ c := ne_of B6.md B6.hb (by intro z; cases z)
    have t7 : Tups H6 (upd H6 c (.dK (putK hk (Sum.inl wh) (.ref t2)))) := Tups.upd hcx
    refine ⟨_, rfl, _, rfl, p, C, dx, _, _, rfl, (by rw [upd_ne pc]; exact B6.ob), T.cl, T.n4, bf_made _ _ _ _, _, rfl, _, rfl, (by show 2 ≤ sizeLine; decide), fun t3 n3 => ?_⟩
    have s06 : Same H H6 := (s04.trans s5).trans s6
    generalize h7 : upd H6 c (.dK (putK hk (Sum.inl wh) (.ref t2))) = H7 at n3 t7 ⊢
    have e7c : H7 c = some (.dK (putK hk (Sum.inl wh) (.ref t2))) := by rw [← h7]; exact upd_same
    have e7 : ∀ q, q ≠ c → H7 q = H6 q := fun q z => by rw [← h7]; exact upd_ne z
    have s8 : Same H7 (upd H7 t3 (.tup [.int bs, .int mk])) := same_upd n3
    have e8t : (upd H7 t3 (.tup [.int bs, .int mk])) t3 = some (.tup [.int bs, .int mk]) := upd_same
    generalize (upd H7 t3 (.tup [.int bs, .int mk])) = H8 at s8 e8t
    have md8 : H8 d = some (.dT (mkv js)) := s8 _ _ (by rw [e7 d dc]; exact B6.md)
    have lm : (mkv js).length = js.length := List.length_map _
    have pd : p ≠ d := ne_of B6.ob B6.md (by intro z; cases z)
    have ad : a ≠ d := ne_of B6.ka B6.md (by intro z; cases z)
    refine ⟨d, _, rfl, DPut.t (k := [Sum.inl bs, Sum.inl mk]) md8 e8t (small1000 (by omega)), ?_⟩
    have t9 : Tups H8 (upd H8 d (.dT (putK (mkv js) [Sum.inl bs, Sum.inl mk] (.int wh)))) := Tups.upd fun xs z => by rw [md8] at z; cases z
    have t69 : Tups H6 (upd H8 d (.dT (putK (mkv js) [Sum.inl bs, Sum.inl mk] (.int wh)))) := (t7.trans (Same.tups s8)).trans t9
    obtain ⟨l6, _⟩ := hv_look (x := wh) B6.hv
    refine q _ (putK hk (Sum.inl wh) (.ref t2)) ⟨?_, B6.ac, ?_, B6.kn.mono t69, ?_, ?_, ?_⟩ fun x o ex hxc hxd => ?_
    · rw [upd_ne pd]
      exact s8 _ _ (by rw [e7 p pc]; exact B6.ob)
    · rw [upd_ne ad]
      exact s8 _ _ (by rw [e7 a B6.ac]; exact B6.ka)
    · rw [upd_ne dc.symm]
      exact s8 _ _ e7c
    · rw [putK_new _ (l6 nw)]
      exact Paired.snoc (B6.hv.mono t69) ⟨rfl, t2, rfl, t69 _ _ e6⟩
    · have em : mkv (js ++ [(wh, bs, mk)]) = putK (mkv js) [Sum.inl bs, Sum.inl mk] (.int wh) := by
        rw [putK_new _ (mkv_none np)]
        unfold mkv
        rw [List.map_append]
        rfl
      rw [em]
      exact upd_same
    · rw [upd_ne hxd]
      exact s8 _ _ (by rw [e7 x hxc]; exact s06 _ _ ex)
end
end Bk

namespace Bk
open PySem PySem.Spec PyProof.Rows L2 Bh
theorem take_snoc {α : Type} {l : List α} {i : Nat} {x : α} (h : l[i]? = some x) : l.take (i + 1) = l.take i ++ [x] := by
  rw [List.take_add_one, h]
  rfl
theorem take_fresh {α β : Type} (f : α → β) {l : List α} {i : Nat} {x : α} (nd : (l.map f).Nodup) (h : l[i]? = some x) : ∀ y ∈ l.take i, f y ≠ f x := by
  intro y hy q
  obtain ⟨j, e⟩ := List.mem_iff_getElem?.mp hy
  rw [List.getElem?_take] at e
  by_cases hj : j < i
  · rw [if_pos hj] at e
    have e1 : (l.map f)[j]? = some (f y) := by rw [List.getElem?_map, e]; rfl
    have e2 : (l.map f)[i]? = some (f x) := by rw [List.getElem?_map, h]; rfl
    rw [q] at e1
    have := nd_ix nd e1 e2
    omega
  · rw [if_neg hj] at e
    cases e
section
variable {P : Program} {w : World} {K : PySem.W.Frag} {mg : Str → Option Value} {base : Heap} {C CH CN : Addr}
/-! ### __init__ -/
/-- all but what stands at p stands -/
def Kept (p : Addr) (H H' : Hp) : Prop := ∀ b o, H b = some o → b ≠ p → H' b = some o
theorem Kept.trans {p : Addr} {H H1 H2 : Hp} (a : Kept p H H1) (b : Kept p H1 H2) : Kept p H H2 := fun c o e n => b c o (a c o e n) n
theorem Same.kept {p : Addr} {H H' : Hp} (s : Same H H') : Kept p H H' := fun b o e _ => s b o e
theorem putF_len (f : Str) (v : V) (fs : List (Str × V)) : (putF f v fs).length ≤ fs.length + 1 := length_putF f v fs
theorem Kept.free {p b : Addr} {H H' : Hp} (k : Kept p H H') (h : H' b = none) (nb : b ≠ p) : H b = none := by
  cases q : H b with
  | none => rfl
  | some o =>
    rw [k b o q nb] at h
    cases h
theorem len1 (f : Str) (x : V) : (putF f x []).length < 1000 := Nat.lt_of_le_of_lt (putF_len _ _ _) (by show 0 + 1 < 1000; decide)
theorem len2 (f g : Str) (x y : V) : (putF g y (putF f x [])).length < 1000 := by
  have h1 := putF_len f x []
  have h2 := putF_len g y (putF f x [])
  have h0 : ([] : List (Str × V)).length = 0 := rfl
  omega
theorem len3 (f g h : Str) (x y z : V) : (putF h z (putF g y (putF f x []))).length < 1000 := by
  have h1 := putF_len f x []
  have h2 := putF_len g y (putF f x [])
  have h3 := putF_len h z (putF g y (putF f x []))
  have h0 : ([] : List (Str × V)).length = 0 := rfl
  omega
/-- a new thing laid, then p's own object changed -/
theorem fld_step {H : Hp} {p a : Addr} {u u' o : HO} (hp : H p = some u) (na : H a = none) : Kept p H (upd (upd H a o) p u') ∧ (upd (upd H a o) p u') p = some u' ∧ (upd (upd H a o) p u') a = some o := by
  have pa : p ≠ a := ne_of_none hp na
  refine ⟨fun b x e nb => ?_, upd_same, ?_⟩
  · rw [upd_ne nb, upd_ne (ne_of_none e na)]
    exact e
  · rw [upd_ne pa.symm]
    exact upd_same
def spInit (C CN : Addr) : Sp := fun vs H Q E => ∃ (p dx t m l : Addr) (xs ys : List V) (told : List (Int × Str × Int)) (js : List Tri), vs = [.ref p, .ref t, .ref m, .ref l] ∧ H p = some (.ins C dx []) ∧ H t = some (.lst xs) ∧ Ts H xs told ∧ H m = some (.lst []) ∧
  H l = some (.lst ys) ∧ Js H ys js ∧ TOk DK told ∧ JOk DK told js ∧ told.length ≤ 1000 ∧ js.length ≤ 1000 ∧
  ((∃ wh ∈ js.map (·.1), Go js 8 wh) → ∀ H', Kept p H H' → E (.ref CN) none H') ∧
  ((∀ wh ∈ js.map (·.1), ¬ Go js 8 wh) → ∀ (H' : Hp) (a b c d : Addr) (kk hk : List (Key × V)), BookIn C H' p dx a b c d kk hk told js → Kept p H H' → Q .non H')
theorem scI : FnScope ["self", "signs", "mates", "joins", "sign", "kind", "rank", "first", "second", "whole", "base", "mark"] ["self", "signs", "mates", "joins"] (defScope sInit) := ⟨rfl, rfl, rfl, by decide +kernel, rfl, by decide +kernel, by decide +kernel⟩
theorem ok_init {f fW fL fK fP fG : Addr} {fd fdW fdL fdK fdP fdG : FuncData} (F : Fun K "__init__" "Book.__init__" sInit f fd) (T : Txt K mg C CH CN)
    (FW : Fun K "is_whole" "is_whole" sWhole fW fdW) (gW : mg "is_whole" = some (.ref fW)) (bW : Binds K fdW ["thing"] [])
    (FL : Fun K "look_at_told" "look_at_told" sLook fL fdL) (gL : mg "look_at_told" = some (.ref fL)) (bL : Binds K fdL ["sign", "kind", "rank", "known"] [])
    (FK : Fun K "kind" "Book.kind" sKind fK fdK) (bK : Binds K fdK ["self", "sign"] []) (mK : Meth K C "kind" fK)
    (FP : Fun K "put_join" "Book.put_join" sPut fP fdP) (bP : Binds K fdP ["self", "whole", "base", "mark"] []) (mP : Meth K C "put_join" fP)
    (FG : Fun K "look_at_goings" "Book.look_at_goings" sGoings fG fdG) (bG : Binds K fdG ["self", "whole"] []) (mG : Meth K C "look_at_goings" fG) :
    FnOk P w K mg base (L2.CX P w) 3 f fd ["self", "signs", "mates", "joins"] (spInit C CN) := by
  have GL : FnOk P w K mg base CX0 2 fL fdL ["sign", "kind", "rank", "known"] spLook := ok_look FL T FW gW bW
  have GP : FnOk P w K mg base CX0 2 fP fdP ["self", "whole", "base", "mark"] (spPut C) := ok_put FP T FW gW bW FK bK mK
  have GG : FnOk P w K mg base (L2.CX P w) 1 fG fdG ["self", "whole"] (spGo C CN) := ok_goings FG T
  refine F.okX scI (fun vs H Q E h => ?_) (fun cdv A outer s H vs Q E hr h => ?_)
  · obtain ⟨p, dx, t, m, l, xs, ys, told, js, rfl, _⟩ := h
    rfl
  · obtain ⟨p, dx, t, m, l, xs, ys, told, js, rfl, hp, ht, hT, hm, hl, hJ, tok, jok, lt, lj, kE, kQ⟩ := h
    have hu := hu_of hr
    have hr1 : Room 1 _ := hr.mono (by decide)
    refine ⟨_, pss_cons (ps_fld (pv 0) pe_dnewK rfl) (pss_cons (ps_fld (pv 0) pe_dnewK rfl) (pss_cons (ps_fld (pv 0) pe_dnewK rfl) (pss_cons (ps_fld (pv 0) pe_dnewT rfl)
      (pss_cons (ps_for (passes_of rfl) rfl (pi_list (pv 1)) (pg_tup rfl (pgs_cons (pg_name (i := 4) scI.nd rfl (.inl rfl)) (pgs_cons (pg_name (i := 5) scI.nd rfl (.inl rfl)) (pgs_cons (pg_name (i := 6) scI.nd rfl (.inl rfl)) pgs_nil))))
        (pss_cons (ps_expr (pe_call GL hr (by rfl) gL FL.kp bL .nil pass0 (pa_cons (pv 4) (pa_cons (pv 5) (pa_cons (pv 6) (pa_cons (pe_fld (pv 0) rfl) pa_nil))))))
        (pss_one (ps_dput hu (pe_fld (pv 0) rfl) (pv 4) (pe_tup (pa_cons (pv 5) (pa_cons (pv 6) pa_nil))) rfl))))
      (pss_cons (ps_for (passes_of rfl) rfl (pi_list (pv 2)) (pg_tup rfl (pgs_cons (pg_name (i := 7) scI.nd rfl (.inl rfl)) (pgs_cons (pg_name (i := 8) scI.nd rfl (.inl rfl)) pgs_nil)))
        (pss_one ps_never))
      (pss_cons (ps_for (passes_of rfl) rfl (pi_list (pv 3)) (pg_tup rfl (pgs_cons (pg_name (i := 9) scI.nd rfl (.inl rfl)) (pgs_cons (pg_name (i := 10) scI.nd rfl (.inl rfl)) (pgs_cons (pg_name (i := 11) scI.nd rfl (.inl rfl)) pgs_nil))))
        (pss_one (ps_expr (pe_meth (pv 0) T.cl mP GP hr bP .nil pass0 (pa_cons (pv 9) (pa_cons (pv 10) (pa_cons (pv 11) pa_nil)))))))
      (pss_one (ps_lock (ps_for (passes_of rfl) rfl (pi_keys (pe_fld (pv 0) rfl)) (pg_name (i := 9) scI.nd rfl (.inl rfl))
        (pss_one (ps_expr (pe_meth (pv 0) T.cl mG GG hr1 bG .nil (passes_call (E := E) (takes_of rfl rfl rfl rfl) (fun _ _ _ _ h => h)) (pa_cons (pv 9) pa_nil))))))))))))), ?_⟩
    -- the four dicts
    intro a na
    have pa : p ≠ a := ne_of_none hp na
    refine ⟨_, rfl, p, C, dx, [], rfl, (by rw [upd_ne pa]; exact hp), T.cl, T.n1, (by show 0 < 1000; decide), ?_⟩
    obtain ⟨k1, p1, a1⟩ := fld_step (o := .dK []) (u' := .ins C dx (putF "known" (.ref a) [])) hp na
    generalize upd (upd H a (.dK [])) p (.ins C dx (putF "known" (.ref a) [])) = H1 at k1 p1 a1 ⊢
    intro b nb
    have pb : p ≠ b := ne_of_none p1 nb
    refine ⟨_, rfl, p, C, dx, _, rfl, (by rw [upd_ne pb]; exact p1), T.cl, T.n2, (by exact len1 _ _), ?_⟩
    obtain ⟨k2, p2, b2⟩ := fld_step (o := .dK []) (u' := .ins C dx (putF "others" (.ref b) (putF "known" (.ref a) []))) p1 nb
    generalize upd (upd H1 b (.dK [])) p (.ins C dx (putF "others" (.ref b) (putF "known" (.ref a) []))) = H2 at k2 p2 b2 ⊢
    intro c nc
    have pc : p ≠ c := ne_of_none p2 nc
    refine ⟨_, rfl, p, C, dx, _, rfl, (by rw [upd_ne pc]; exact p2), T.cl, T.n3, (by exact len2 _ _ _ _), ?_⟩
    obtain ⟨k3, p3, c3⟩ := fld_step (o := .dK []) (u' := .ins C dx (putF "halves" (.ref c) (putF "others" (.ref b) (putF "known" (.ref a) [])))) p2 nc
    generalize upd (upd H2 c (.dK [])) p (.ins C dx (putF "halves" (.ref c) (putF "others" (.ref b) (putF "known" (.ref a) [])))) = H3 at k3 p3 c3 ⊢
    intro d nd
    have pd : p ≠ d := ne_of_none p3 nd
    refine ⟨_, rfl, p, C, dx, _, rfl, (by rw [upd_ne pd]; exact p3), T.cl, T.n4, (by exact len3 _ _ _ _ _ _), ?_⟩
    obtain ⟨k4, p4, d4⟩ := fld_step (o := .dT []) (u' := .ins C dx (putF "made" (.ref d) (putF "halves" (.ref c) (putF "others" (.ref b) (putF "known" (.ref a) []))))) p3 nd
    generalize upd (upd H3 d (.dT [])) p (.ins C dx (putF "made" (.ref d) (putF "halves" (.ref c) (putF "others" (.ref b) (putF "known" (.ref a) []))))) = H4 at k4 p4 d4 ⊢
    rw [bf_new] at p4
    have k04 : Kept p H H4 := ((k1.trans k2).trans k3).trans k4
    have fc : H c = none := (k1.trans k2).free nc pc.symm
    have fd' : H d = none := ((k1.trans k2).trans k3).free nd pd.symm
    have a4 : H4 a = some (.dK []) := k4 _ _ (k3 _ _ (k2 _ _ a1 pa.symm) pa.symm) pa.symm
    have c4 : H4 c = some (.dK []) := k4 _ _ c3 pc.symm
    have ac : a ≠ c := ne_of_none (k2 _ _ a1 pa.symm) nc
    have tp : t ≠ p := ne_of ht hp (by intro z; cases z)
    have mp : m ≠ p := ne_of hm hp (by intro z; cases z)
    have lp : l ≠ p := ne_of hl hp (by intro z; cases z)
    have B4 : BookIn C H4 p dx a b c d [] [] (told.take 0) [] := ⟨p4, ac, a4, .nil, c4, .nil, d4⟩
    -- for sign, kind, rank in signs
    refine ⟨_, rfl, t, rfl, ⟨_, SqL.of (k04 _ _ ht tp)⟩, for_list (K := K) (a := t) (xs := xs) (fun i σ H' => ∃ (kk : List (Key × V)) (v4 v5 v6 : Option V), σ = [some (.ref p), some (.ref t), some (.ref m), some (.ref l), v4, v5, v6, none, none, none, none, none] ∧ Kept p H H' ∧ BookIn C H' p dx a b c d kk [] (told.take i) [])
      ⟨[], none, none, none, rfl, k04, B4⟩ (fun i σ H' _ ⟨_, _, _, _, _, kp, _⟩ => SqL.of (kp _ _ ht tp)) ?_ ?_⟩
    · rintro i x σ H' hi ⟨kk, v4, v5, v6, rfl, kp, B⟩
      obtain ⟨e, he, tt, rfl, htt⟩ := Paired.getL hT hi
      have em : e ∈ told := List.mem_iff_getElem?.mpr ⟨i, he⟩
      have ttp : tt ≠ p := ne_of htt hp (by intro z; cases z)
      have fresh : look (told.take i) e.1 = none := look_not (take_fresh (fun e => e.1) tok.nd he)
      have vn := (kn_look (x := e.1) B.kn).1 fresh
      obtain ⟨r1, r2⟩ := tok.pos e em
      refine ⟨tt, _, rfl, SqT.of (kp _ _ htt ttp), rfl, _, _, rfl, _, _, rfl, _, _, rfl, rfl, ?_⟩
      refine ⟨_, rfl, _, rfl, _, rfl, _, rfl, p, C, dx, _, _, rfl, B.ob, T.cl, T.n1, bf_known _ _ _ _, e.1, e.2.1, e.2.2, a, kk, rfl, B.ka, vn, tok.kind e em, r1, r2, tok.rank e em, ?_⟩
      refine ⟨_, rfl, _, rfl, (by show 2 ≤ sizeLine; decide), fun t2 n2 => ?_⟩
      have s2 : Same H' (upd H' t2 (.tup [.str e.2.1, .int e.2.2])) := same_upd n2
      have e2 : (upd H' t2 (.tup [.str e.2.1, .int e.2.2])) t2 = some (.tup [.str e.2.1, .int e.2.2]) := upd_same
      have B2 := B.same s2
      generalize upd H' t2 (.tup [.str e.2.1, .int e.2.2]) = H5 at s2 e2 B2 ⊢
      have il : i < told.length := (List.getElem?_eq_some_iff.mp he).1
      have lk : kk.length = (told.take i).length := Paired.length B2.kn
      rw [List.length_take] at lk
      have ap : p ≠ a := ne_of B2.ob B2.ka (by intro z; cases z)
      have da : d ≠ a := ne_of B2.md B2.ka (by intro z; cases z)
      have tu : Tups H5 (upd H5 a (.dK (putK kk (Sum.inl e.1) (.ref t2)))) := Tups.upd fun xs z => by rw [B2.ka] at z; cases z
      refine ⟨_, rfl, p, C, dx, _, _, rfl, B2.ob, T.cl, T.n1, bf_known _ _ _ _, _, rfl, a, _, rfl, DPut.k (k := Sum.inl e.1) B2.ka (small1000 (by omega)), ?_⟩
      refine ⟨putK kk (Sum.inl e.1) (.ref t2), _, _, _, rfl, fun q o eq nq => ?_, ⟨?_, B2.ac, upd_same, ?_, ?_, .nil, ?_⟩⟩
      · rw [upd_ne (ne_of_none eq na)]
        exact s2 _ _ (kp _ _ eq nq)
      · rw [upd_ne ap]; exact B2.ob
      · have z := Paired.snoc (F := KnP (upd H5 a (.dK (putK kk (Sum.inl e.1) (.ref t2))))) (a := (Sum.inl e.1, V.ref t2)) (b := e) (B2.kn.mono tu) ⟨rfl, t2, rfl, tu _ _ e2⟩
        rw [← putK_new (V.ref t2) vn, ← take_snoc he] at z
        exact z
      · rw [upd_ne B2.ac.symm]; exact B2.hb
      · rw [upd_ne da]; exact B2.md
    · rintro σ H6 ⟨kk, v4, v5, v6, rfl, k6, B6⟩
      rw [Paired.length hT, List.take_length] at B6
      -- for first, second in mates: none
      refine ⟨_, rfl, m, rfl, ⟨_, SqL.of (k6 _ _ hm mp)⟩, for_list (K := K) (a := m) (xs := []) (fun i σ H' => σ = [some (.ref p), some (.ref t), some (.ref m), some (.ref l), v4, v5, v6, none, none, none, none, none] ∧ H' = H6)
        ⟨rfl, rfl⟩ (fun i σ H' _ ⟨_, z⟩ => by rw [z]; exact SqL.of (k6 _ _ hm mp)) (fun i x σ H' z => by simp at z) ?_⟩
      rintro σ H' ⟨rfl, rfl⟩
      -- for whole, base, mark in joins
      refine ⟨_, rfl, l, rfl, ⟨_, SqL.of (k6 _ _ hl lp)⟩, for_list (K := K) (a := l) (xs := ys) (fun i σ H' => ∃ (hk : List (Key × V)) (v9 v10 v11 : Option V), σ = [some (.ref p), some (.ref t), some (.ref m), some (.ref l), v4, v5, v6, none, none, v9, v10, v11] ∧ Kept p H H' ∧ BookIn C H' p dx a b c d kk hk told (js.take i))
        ⟨[], none, none, none, rfl, k6, B6⟩ (fun i σ H' _ ⟨_, _, _, _, _, kp, _⟩ => SqL.of (kp _ _ hl lp)) ?_ ?_⟩
      · rintro i x σ H7 hi ⟨hk, v9, v10, v11, rfl, k7, B7⟩
        obtain ⟨j, hj, tt, rfl, htt⟩ := Paired.getL hJ hi
        have jm : j ∈ js := List.mem_iff_getElem?.mpr ⟨i, hj⟩
        have ttp : tt ≠ p := ne_of htt hp (by intro z; cases z)
        have f1 : look (js.take i) j.1 = none := look_not (take_fresh (fun e => e.1) jok.ndW hj)
        have f2 : ∀ e ∈ js.take i, e.2 ≠ j.2 := take_fresh (fun e => e.2) jok.ndP hj
        obtain ⟨r1, r2, r3⟩ := jok.pos j jm
        have no : (bf a b c d).lookup ("put_join" : Str) = none := bf_no a b c d (by decide +kernel) (by decide +kernel) (by decide +kernel) (by decide +kernel)
        refine ⟨tt, _, rfl, SqT.of (k7 _ _ htt ttp), rfl, _, _, rfl, _, _, rfl, _, _, rfl, rfl, ?_⟩
        refine ⟨_, rfl, p, dx, _, rfl, B7.ob, no, _, rfl, _, rfl, _, rfl, p, dx, a, b, c, d, kk, hk, told, js.take i, j.1, j.2.1, j.2.2, rfl, B7, r1, r2, r3, jok.mark j jm, jok.base j jm, jok.whole j jm, f1, f2, Nat.le_trans (List.length_take_le' _ _) lj, fun H8 hk' B8 k8 => ?_⟩
        refine ⟨hk', _, _, _, rfl, fun q o eq nq => k8 q o (k7 _ _ eq nq) (ne_of_none eq fc) (ne_of_none eq fd'), ?_⟩
        rw [take_snoc hj]
        exact B8
      · rintro σ H7 ⟨hk, v9, v10, v11, rfl, k7, B7⟩
        rw [Paired.length hJ, List.take_length] at B7
        -- for whole in self.halves
        have pc7 : p ≠ c := ne_of B7.ob B7.hb (by intro z; cases z)
        refine ⟨c, .dK hk, B7.hb, trivial, fun od => ?_⟩
        have tl' : Tups H7 (upd H7 c (.frz od (.dK hk))) := Tups.upd fun xs z => by rw [B7.hb] at z; cases z
        have obL : (upd H7 c (.frz od (.dK hk))) p = some (.ins C dx (bf a b c d)) := by rw [upd_ne pc7]; exact B7.ob
        have cL : (upd H7 c (.frz od (.dK hk))) c = some (.frz od (.dK hk)) := upd_same
        have kL : Kept p H (upd H7 c (.frz od (.dK hk))) := fun q o eq nq => by rw [upd_ne (ne_of_none eq fc)]; exact k7 q o eq nq
        have bk : Same H7 (upd (upd H7 c (.frz od (.dK hk))) c (.dK hk)) := fun q o eq => by
          by_cases z : q = c
          · rw [z] at eq ⊢
            rw [upd_same, ← eq, B7.hb]
          · rw [upd_ne z, upd_ne z]
            exact eq
        generalize upd H7 c (.frz od (.dK hk)) = HL at tl' obL cL kL bk ⊢
        have hvL := B7.hv.mono tl'
        have lh : hk.length = js.length := Paired.length B7.hv
        have no : (bf a b c d).lookup ("look_at_goings" : Str) = none := bf_no a b c d (by decide +kernel) (by decide +kernel) (by decide +kernel) (by decide +kernel)
        refine ⟨_, rfl, p, C, dx, _, _, rfl, obL, T.cl, T.n3, bf_halves _ _ _ _, c, od, rfl, .inl ⟨hk, cL, ?_⟩⟩
        refine ⟨fun i n σ H' => H' = HL ∧ n = hk.length - i ∧ i ≤ hk.length ∧ (∀ j ∈ js.take i, ¬ Go js 8 j.1) ∧ ∃ v9, σ = [some (.ref p), some (.ref t), some (.ref m), some (.ref l), v4, v5, v6, none, none, v9, v10, v11], ⟨_, rfl, rfl, Nat.zero_le _, (fun _ z => nomatch z), v9, rfl⟩, ?_⟩
        rintro i n σ H' ⟨rfl, rfl, hi, hg, v9', rfl⟩
        by_cases hlt : i < hk.length
        · refine .inr ⟨⟨cL, hlt⟩, fun σ' H'' => H'' = H' ∧ i + 1 ≤ hk.length ∧ (∀ j ∈ js.take (i + 1), ¬ Go js 8 j.1) ∧ ∃ v9, σ' = [some (.ref p), some (.ref t), some (.ref m), some (.ref l), v4, v5, v6, none, none, v9, v10, v11], fun σ' H'' ⟨z1, z2, z3, z4⟩ => ⟨hk.length - (i + 1), by omega, z1, rfl, z2, z3, z4⟩, fun x H'' hy => ?_⟩
          obtain ⟨rfl, k, v, hkv, rfl⟩ := hy
          obtain ⟨j, hj, ek, _⟩ := Paired.getL B7.hv hkv
          have jm : j ∈ js := List.mem_iff_getElem?.mpr ⟨i, hj⟩
          have ek' : k = Sum.inl j.1 := ek
          subst ek'
          refine ⟨_, rfl, p, dx, _, rfl, obL, no, _, rfl, p, j.1, dx, a, b, c, d, hk, js, rfl, obL, .inr ⟨od, cL⟩, hvL, fun hgo => kE ⟨j.1, List.mem_map.mpr ⟨j, jm, rfl⟩, hgo⟩ _ kL, fun hgo => ?_⟩
          refine ⟨rfl, hlt, fun j' hj' => ?_, _, rfl⟩
          rw [take_snoc hj] at hj'
          rcases List.mem_append.mp hj' with z | z
          · exact hg j' z
          · rw [List.mem_singleton.mp z]
            exact hgo
        · have ei : i = hk.length := by omega
          subst ei
          refine .inl ⟨⟨cL, Nat.le_refl _⟩, cL, ?_⟩
          refine kQ (fun wh hw => ?_) _ a b c d kk hk (B7.same bk) fun q o eq nq => bk q o (k7 q o eq nq)
          obtain ⟨j, hj, rfl⟩ := List.mem_map.mp hw
          exact hg j (by rw [lh, List.take_length]; exact hj)
end
end Bk

namespace Bk
open PySem PySem.Spec PyProof.Rows L2 Bh
section
variable {P : Program} {w : World} {K : PySem.W.Frag} {mg : Str → Option Value} {base : Heap} {C CH CN : Addr}
/-! ### _law_cell_at -/
def spCell (K : PySem.W.Frag) : Sp := fun vs H Q _ => ∃ (a : Addr) (ns : List Int) (x : Int), vs = [.ref a, .int x] ∧ SqL K H a (ns.map V.int) ∧ 0 ≤ x ∧ Q (.int (cellAt ns x.toNat)) H
theorem scC : FnScope ["_law_script", "_law_k"] ["_law_script", "_law_k"] (defScope sCell) := ⟨rfl, rfl, rfl, by decide +kernel, rfl, by decide +kernel, by decide +kernel⟩
theorem ok_cell {f : Addr} {fd : FuncData} (F : Fun K "_law_cell_at" "_law_cell_at" sCell f fd) (T : Txt K mg C CH CN) : FnOk P w K mg base CX0 1 f fd ["_law_script", "_law_k"] (spCell K) := by
  refine F.ok scC (fun vs H Q E h => ?_) (fun cdv A outer s H vs Q E hr h => ?_)
  · obtain ⟨a, ns, x, rfl, _⟩ := h
    rfl
  · obtain ⟨a, ns, x, rfl, hS, hx, q⟩ := h
    refine ⟨_, pss_cons (ps_if (pt_cmpR op_lt (pv 1) (pe_callB call_len_seq (by rfl) T.mlen PySem.boot_len (pa_cons (pv 0) pa_nil)) (nomark _))
        (pss_one (ps_ret (pe_op op_mod (pe_ix ix_list (pv 0) (pv 1) (fun _ _ => rfl)) (pe_op op_pow pe_int pe_int)))) pss_nil)
      (pss_one (ps_ret pe_int)), ?_⟩
    refine ⟨_, rfl, _, rfl, a, _, rfl, .inl hS, _, _, rfl, rfl, _, rfl, ite2 (fun z => ?_) (fun z => ?_)⟩
    · have z2 : x < ((ns.map V.int).length : Int) := of_decide_eq_true z
      rw [List.length_map] at z2
      have hl : x.toNat < ns.length := by omega
      have e1 : ns[x.toNat]? = some ns[x.toNat] := List.getElem?_eq_getElem hl
      refine ⟨_, rfl, _, rfl, a, _, x, .int ns[x.toNat], rfl, rfl, hS, at_of (j := x.toNat) (by omega) (by rw [List.getElem?_map, e1]; rfl), 10, 62, rfl, rfl, ⟨by decide, by decide, by decide⟩, _, _, rfl, rfl, (by show (0 : Int) < 10 ^ (62 : Int).toNat; decide), ?_⟩
      have ec : cellAt ns x.toNat = ns[x.toNat] % 10 ^ 62 := by
        unfold cellAt
        rw [e1]
      rw [ec] at q
      exact q
    · have z2 : ¬ x < ((ns.map V.int).length : Int) := fun y => z (decide_eq_true y)
      rw [List.length_map] at z2
      have ec : cellAt ns x.toNat = 0 := by
        unfold cellAt
        rw [List.getElem?_eq_none (by omega)]
      rw [ec] at q
      exact q
/-! ### _law_sign -/
def spSign (K : PySem.W.Frag) : Sp := fun vs H Q _ => ∃ (a : Addr) (ns : List Int) (x : Int), vs = [.ref a, .int x] ∧ SqL K H a (ns.map V.int) ∧ 0 ≤ x ∧ Q (.int (sgn ns x.toNat)) H
theorem scS : FnScope ["_law_script", "_law_k", "_law_low", "_law_step"] ["_law_script", "_law_k"] (defScope sSign) := ⟨rfl, rfl, rfl, by decide +kernel, rfl, by decide +kernel, by decide +kernel⟩
theorem ok_sign {f fC : Addr} {fd fdC : FuncData} (F : Fun K "_law_sign" "_law_sign" sSign f fd) (T : Txt K mg C CH CN) (FC : Fun K "_law_cell_at" "_law_cell_at" sCell fC fdC) (gC : mg "_law_cell_at" = some (.ref fC)) (bC : Binds K fdC ["_law_script", "_law_k"] []) :
    FnOk P w K mg base CX0 2 f fd ["_law_script", "_law_k"] (spSign K) := by
  have GC : FnOk P w K mg base CX0 1 fC fdC ["_law_script", "_law_k"] (spCell K) := ok_cell FC T
  refine F.ok scS (fun vs H Q E h => ?_) (fun cdv A outer s H vs Q E hr h => ?_)
  · obtain ⟨a, ns, x, rfl, _⟩ := h
    rfl
  · obtain ⟨a, ns, x, rfl, hS, hx, q⟩ := h
    refine ⟨_, pss_cons (ps_set (i := 2) scS.nd rfl (.inl rfl) (pe_op op_mod (pe_call GC hr (by rfl) gC FC.kp bC .nil pass0 (pa_cons (pv 0) (pa_cons pe_int pa_nil))) (pe_op op_pow pe_int pe_int)))
      (pss_cons (ps_set (i := 3) scS.nd rfl (.inl rfl) (pe_op op_add pe_int (pe_op op_mod (pe_call GC hr (by rfl) gC FC.kp bC .nil pass0 (pa_cons (pv 0) (pa_cons pe_int pa_nil))) (pe_op op_pow pe_int pe_int))))
      (pss_one (ps_ret (pe_op op_add (pv 2) (pe_op op_mul (pe_op op_mod (pe_op op_mul (pe_op op_add pe_int (pe_op op_mod (pe_call GC hr (by rfl) gC FC.kp bC .nil pass0 (pa_cons (pv 0) (pa_cons pe_int pa_nil))) pe_int)) (pv 1)) pe_int) (pv 3)))))), ?_⟩
    refine ⟨_, rfl, a, ns, 0, rfl, hS, by decide, 10, 29, rfl, rfl, ⟨by decide, by decide, by decide⟩, _, _, rfl, rfl, (by show (0 : Int) < 10 ^ (29 : Int).toNat; decide), ?_⟩
    refine ⟨_, rfl, a, ns, 1, rfl, hS, by decide, 10, 27, rfl, rfl, ⟨by decide, by decide, by decide⟩, _, _, rfl, rfl, (by show (0 : Int) < 10 ^ (27 : Int).toNat; decide), 1, _, rfl, rfl, ?_⟩
    have h5 : 0 ≤ cellAt ns 1 % 100 := Int.emod_nonneg _ (by decide)
    have h6 : cellAt ns 1 % 100 < 100 := Int.emod_lt_of_pos _ (by decide)
    have h7 : 0 ≤ (1 + cellAt ns 1 % 100) * x % 101 := Int.emod_nonneg _ (by decide)
    have h8 : (1 + cellAt ns 1 % 100) * x % 101 < 101 := Int.emod_lt_of_pos _ (by decide)
    refine ⟨_, rfl, _, rfl, a, ns, 1, rfl, hS, by decide, _, _, rfl, rfl, (by show (0 : Int) < 100; decide), 1, _, rfl, rfl, _, rfl, _, x, rfl, rfl, .inl ⟨?_, ?_⟩, _, 101, rfl, rfl, (by show (0 : Int) < 101; decide), _, rfl, _, _, rfl, rfl, .inl ⟨?_, ?_⟩, _, _, rfl, rfl, ?_⟩
    · show -(2 ^ 64) < 1 + cellAt ns 1 % 100
      omega
    · show 1 + cellAt ns 1 % 100 < 2 ^ 64
      omega
    · show -(2 ^ 64) < (1 + cellAt ns 1 % 100) * x % 101
      omega
    · show (1 + cellAt ns 1 % 100) * x % 101 < 2 ^ 64
      omega
    · have ex : ((x.toNat : Nat) : Int) = x := Int.toNat_of_nonneg hx
      have es : sgn ns x.toNat = cellAt ns 0 % 10 ^ 29 + (1 + cellAt ns 1 % 100) * x % 101 * (1 + cellAt ns 1 % 10 ^ 27) := by
        unfold sgn
        rw [ex]
      rw [es] at q
      exact q
/-! ### _law_kind -/
def kindAt (c : Int) : Str := joinedL.getD (c % 5).toNat "plain"
theorem kindAt_mem (c : Int) : kindAt c ∈ joinedL := by
  have h : ∀ i : Fin 5, joinedL.getD i.val "plain" ∈ joinedL := by decide +kernel
  exact h ⟨(c % 5).toNat, by omega⟩
def spKindL : Sp := fun vs H Q _ => ∃ c : Int, vs = [.int c] ∧ ∀ H', Same H H' → Q (.str (kindAt c)) H'
theorem scKl : FnScope ["_law_cell"] ["_law_cell"] (defScope sKindL) := ⟨rfl, rfl, rfl, by decide +kernel, rfl, by decide +kernel, by decide +kernel⟩
theorem kindAt_ix (c : Int) : (joinedL.map V.str)[(c % 5).toNat]? = some (V.str (kindAt c)) := by
  have hl : (c % 5).toNat < joinedL.length := by show _ < 5; omega
  unfold kindAt
  rw [List.getElem?_map, List.getElem?_eq_getElem hl, List.getD_eq_getElem?_getD, List.getElem?_eq_getElem hl]
  rfl
theorem ok_kindL {f : Addr} {fd : FuncData} (F : Fun K "_law_kind" "_law_kind" sKindL f fd) : FnOk P w K mg base CX0 1 f fd ["_law_cell"] spKindL := by
  refine F.ok scKl (fun vs H Q E h => ?_) (fun cdv A outer s H vs Q E hr h => ?_)
  · obtain ⟨c, rfl, _⟩ := h
    rfl
  · obtain ⟨c, rfl, q⟩ := h
    refine ⟨_, pss_one (ps_ret (pe_ix ix_list (pe_lst (pa_cons pe_str (pa_cons pe_str (pa_cons pe_str (pa_cons pe_str (pa_cons pe_str pa_nil)))))) (pe_op op_mod (pv 0) pe_int) (fun _ _ => rfl))), ?_⟩
    refine ⟨(by show 5 ≤ sizeLine; decide), fun l hl => ?_⟩
    refine ⟨_, rfl, c, 5, rfl, rfl, (by show (0 : Int) < 5; decide), l, joinedL.map V.str, c % 5, V.str (kindAt c), rfl, rfl, SqL.of upd_same, at_of (j := (c % 5).toNat) (by omega) (kindAt_ix c), q _ (same_upd hl)⟩
/-! ### _law_turned -/
def spTurned (K : PySem.W.Frag) : Sp := fun vs H Q _ => ∃ (l : Addr) (xs : List V) (c : Int), vs = [.ref l, .int c] ∧ SqL K H l xs ∧ xs.length ≤ 1000 ∧
  ∀ (H' : Hp) (l' : Addr) (zs : List V), Same H H' → H l' = none → H' l' = some (.lst zs) → zs.Perm xs → Q (.ref l') H'
theorem scT : FnScope ["_law_joins", "_law_cell", "_law_found", "_law_k"] ["_law_joins", "_law_cell"] (defScope sTurned) := ⟨rfl, rfl, rfl, by decide +kernel, rfl, by decide +kernel, by decide +kernel⟩
theorem ins_perm {α : Type} (zs : List α) (k : Nat) (y : α) : (zs.take k ++ [y] ++ zs.drop k).Perm (zs ++ [y]) := by
  have h1 : (zs.take k ++ [y] ++ zs.drop k).Perm (zs.take k ++ (zs.drop k ++ [y])) := by
    rw [List.append_assoc]
    exact (List.perm_append_comm).append_left _
  rw [← List.append_assoc, List.take_append_drop] at h1
  exact h1
theorem ok_turned {f : Addr} {fd : FuncData} (F : Fun K "_law_turned" "_law_turned" sTurned f fd) (T : Txt K mg C CH CN) : FnOk P w K mg base CX0 1 f fd ["_law_joins", "_law_cell"] (spTurned K) := by
  refine F.ok scT (fun vs H Q E h => ?_) (fun cdv A outer s H vs Q E hr h => ?_)
  · obtain ⟨l, xs, c, rfl, _⟩ := h
    rfl
  · obtain ⟨l, xs, c, rfl, hS, hl, q⟩ := h
    refine ⟨_, pss_cons (ps_set (i := 2) scT.nd rfl (.inl rfl) (pe_lst pa_nil))
      (pss_cons (ps_for PassesOwn.never rfl (pi_range1 rfl T.mran (pa_cons (pe_callB call_len_seq (by rfl) T.mlen PySem.boot_len (pa_cons (pv 0) pa_nil)) pa_nil)) (pg_name (i := 3) scT.nd rfl (.inl rfl))
        (pss_one (ps_expr (pe_bm PySem.F.plainAttrs_list PySem.F.slot_list_insert PySem.F.type_list_insert mt_insert (pv 2)
          (pa_cons (pe_op op_mod (pe_op op_fdivN (pv 1) (pe_op op_add (pv 3) pe_int)) (pe_op op_add (pe_callB call_len_seq (by rfl) T.mlen PySem.boot_len (pa_cons (pv 2) pa_nil)) pe_int)) (pa_cons (pe_ix ix_list (pv 0) (pv 3) (fun _ _ => rfl)) pa_nil))))))
      (pss_one (ps_ret (pv 2)))), ?_⟩
    refine ⟨Nat.zero_le _, fun o no => ?_⟩
    have s1 : Same H (upd H o (.lst [])) := same_upd no
    refine ⟨_, rfl, l, _, rfl, .inl (s1.seq hS), ?_⟩
    refine ⟨(xs.length : Int), rfl, by omega, by omega, for_range (lo := 0) (n := xs.length) (fun i σ H' => ∃ (zs : List V) (v3 : Option V), σ = [some (.ref l), some (.int c), some (.ref o), v3] ∧ Same H H' ∧ H' o = some (.lst zs) ∧ zs.Perm (xs.take i))
      ⟨[], none, rfl, s1, upd_same, .nil⟩ ?_ ?_⟩
    · rintro i σ H' hi ⟨zs, v3, rfl, sm, ho, pm⟩
      have lz : zs.length = i := by
        rw [pm.length_eq, List.length_take]
        omega
      have hx : xs[i]? = some xs[i] := List.getElem?_eq_getElem hi
      have pos : (0 : Int) < ((zs.length : Nat) : Int) + 1 := by omega
      have m0 := Int.emod_nonneg (c.fdiv (0 + (i : Int) + 1)) (b := ((zs.length : Nat) : Int) + 1) (by omega)
      have m1 := Int.emod_lt_of_pos (c.fdiv (0 + (i : Int) + 1)) pos
      refine ⟨_, rfl, .inl ⟨rfl, _, SqL.of ho⟩, _, rfl, _, rfl, _, _, rfl, rfl, c, 0 + (i : Int) + 1, rfl, rfl, ⟨by omega, by omega⟩, _, rfl, o, zs, rfl, .inl (SqL.of ho), _, 1, rfl, rfl, _, _, rfl, rfl, pos, ?_⟩
      refine ⟨_, rfl, _, rfl, l, xs, 0 + (i : Int), xs[i], rfl, rfl, sm.seq hS, at_of (j := i) (by omega) hx, ?_⟩
      refine ⟨o, zs, c.fdiv (0 + (i : Int) + 1) % (((zs.length : Nat) : Int) + 1), xs[i], rfl, rfl, ho, small1000 (by omega), m0, by omega, ?_⟩
      refine ⟨_, _, rfl, fun b x e => ?_, upd_same, ?_⟩
      · rw [upd_ne (ne_of_none e no)]
        exact sm _ _ e
      · rw [take_snoc hx]
        exact (ins_perm _ _ _).trans (pm.append_right _)
    · rintro σ H' ⟨zs, v3, rfl, sm, ho, pm⟩
      rw [List.take_length] at pm
      exact ⟨_, rfl, q _ o zs sm no ho pm⟩
end
end Bk

namespace Bk
open PySem PySem.Spec PyProof.Rows L2 Bh
section
variable {P : Program} {w : World} {K : PySem.W.Frag} {mg : Str → Option Value} {base : Heap} {C CH CN : Addr}
/-! ### _law_row -/
def spRow (K : PySem.W.Frag) : Sp := fun vs H Q _ => ∃ (a : Addr) (ns : List Int) (n0 m : Nat) (c : Str), vs = [.ref a, .int (n0 : Int), .int (m : Int), .str c] ∧ SqL K H a (ns.map V.int) ∧ m ≤ 12 ∧
  ∀ (H' : Hp) (t l1 l2 : Addr) (xs ys : List V), Same H H' → H l1 = none → H l2 = none → l1 ≠ l2 → H' t = some (.tup [.ref l1, .ref l2]) → H' l1 = some (.lst xs) → Ts H' xs ((toldRow DK n0 m c).map (tl (sgn ns))) →
    H' l2 = some (.lst ys) → Js H' ys ((joinsRow n0 m).map (tri (sgn ns))) → Q (.ref t) H'
abbrev rowN : List Str := ["_law_script", "_law_first", "_law_many", "_law_kind_here", "_law_marks", "_law_joins", "_law_k", "_law_told"]
theorem scR : FnScope rowN ["_law_script", "_law_first", "_law_many", "_law_kind_here"] (defScope sRow) := ⟨rfl, rfl, rfl, by decide +kernel, rfl, by decide +kernel, by decide +kernel⟩
theorem joinsRow_snoc (f i : Nat) : joinsRow f (i + 1) = joinsRow f i ++ [(f + i + 1, f + i, (f + i) % 2)] := by
  unfold joinsRow
  rw [List.range_succ, List.map_append]
  rfl
theorem marks_at (ns : List Int) (k : Nat) : ([V.int (sgn ns 0), V.int (sgn ns 1)] : List V)[k % 2]? = some (V.int (sgn ns (k % 2))) := by
  rcases (by omega : k % 2 = 0 ∨ k % 2 = 1) with e | e
  · rw [e]; rfl
  · rw [e]; rfl
theorem ok_row {f fS fC : Addr} {fd fdS fdC : FuncData} (F : Fun K "_law_row" "_law_row" sRow f fd) (T : Txt K mg C CH CN)
    (FS : Fun K "_law_sign" "_law_sign" sSign fS fdS) (gS : mg "_law_sign" = some (.ref fS)) (bS : Binds K fdS ["_law_script", "_law_k"] [])
    (FC : Fun K "_law_cell_at" "_law_cell_at" sCell fC fdC) (gC : mg "_law_cell_at" = some (.ref fC)) (bC : Binds K fdC ["_law_script", "_law_k"] []) :
    FnOk P w K mg base CX0 3 f fd ["_law_script", "_law_first", "_law_many", "_law_kind_here"] (spRow K) := by
  have GS : FnOk P w K mg base CX0 2 fS fdS ["_law_script", "_law_k"] (spSign K) := ok_sign FS T FC gC bC
  refine F.ok scR (fun vs H Q E h => ?_) (fun cdv A outer s H vs Q E hr h => ?_)
  · obtain ⟨a, ns, n0, m, c, rfl, _⟩ := h
    rfl
  · obtain ⟨a, ns, n0, m, c, rfl, hS, hm, q⟩ := h
    refine ⟨_, pss_cons (ps_set (i := 4) scR.nd rfl (.inl rfl) (pe_lst (pa_cons (pe_call GS hr (by rfl) gS FS.kp bS .nil pass0 (pa_cons (pv 0) (pa_cons pe_int pa_nil))) (pa_cons (pe_call GS hr (by rfl) gS FS.kp bS .nil pass0 (pa_cons (pv 0) (pa_cons pe_int pa_nil))) pa_nil))))
      (pss_cons (ps_set (i := 5) scR.nd rfl (.inl rfl) (pe_lst pa_nil))
      (pss_cons (ps_for PassesOwn.never rfl (pi_range1 rfl T.mran (pa_cons (pv 2) pa_nil)) (pg_name (i := 6) scR.nd rfl (.inl rfl))
        (pss_one (ps_expr (pe_bm PySem.F.plainAttrs_list PySem.F.slot_list_append PySem.F.type_list_append mt_append (pv 5)
          (pa_cons (pe_tup (pa_cons (pe_call GS hr (by rfl) gS FS.kp bS .nil pass0 (pa_cons (pv 0) (pa_cons (pe_op op_add (pe_op op_add (pv 1) (pv 6)) pe_int) pa_nil)))
            (pa_cons (pe_call GS hr (by rfl) gS FS.kp bS .nil pass0 (pa_cons (pv 0) (pa_cons (pe_op op_add (pv 1) (pv 6)) pa_nil)))
            (pa_cons (pe_ix ix_list (pv 4) (pe_op op_mod (pe_op op_add (pv 1) (pv 6)) pe_int) (fun _ _ => rfl)) pa_nil)))) pa_nil)))))
      (pss_cons (ps_set (i := 7) scR.nd rfl (.inl rfl) (pe_lst pa_nil))
      (pss_cons (ps_if (pt_cmpR op_ne (pv 3) pe_str (nomark _))
        (pss_one (ps_setLc (i := 7) (own := [("_law_k", 6)]) (g := gName 6) (tt := tYes) rfl scR.nd rfl rfl (sw_true rfl rfl rfl (by decide +kernel)) (pi_range1 rfl T.mran (pa_cons (pe_op op_add (pv 2) pe_int) pa_nil))
          (blkOk_by (own := [("_law_k", 6)]) (N := rowN) (sc := defScope sRow) (by decide +kernel)) (fun _ _ _ _ _ => pg_name (i := 6) scR.nd rfl (Or.inl rfl)) (fun _ _ _ _ _ => pts_nil)
          (fun _ _ _ _ _ => pe_tup (pa_cons (pe_call GS hr (by rfl) gS FS.kp bS .nil pass0 (pa_cons (pv 0) (pa_cons (pe_op op_add (pv 1) (pv 6)) pa_nil))) (pa_cons (pv 3) (pa_cons pe_int pa_nil)))))) pss_nil)
      (pss_one (ps_ret (pe_tup (pa_cons (pv 7) (pa_cons (pv 5) pa_nil))))))))), ?_⟩
    -- _law_marks
    refine ⟨_, rfl, a, ns, 0, rfl, hS, by decide, _, rfl, a, ns, 1, rfl, hS, by decide, (by show 2 ≤ sizeLine; decide), fun mk nmk => ?_⟩
    obtain ⟨H1, eH1⟩ : ∃ H1, H1 = upd H mk (.lst [.int (sgn ns (Int.toNat 0)), .int (sgn ns (Int.toNat 1))]) := ⟨_, rfl⟩
    have s1 : Same H H1 := by rw [eH1]; exact same_upd nmk
    have m1 : H1 mk = some (.lst [.int (sgn ns 0), .int (sgn ns 1)]) := by rw [eH1]; exact upd_same
    rw [← eH1]
    -- _law_joins
    refine ⟨Nat.zero_le _, fun jl njl => ?_⟩
    have s2 : Same H1 (upd H1 jl (.lst [])) := same_upd njl
    have j2 : (upd H1 jl (.lst [])) jl = some (.lst []) := upd_same
    have nj0 : H jl = none := s1.free njl
    generalize upd H1 jl (.lst []) = H2 at s2 j2 ⊢
    -- for _law_k in range(_law_many)
    refine ⟨_, rfl, (m : Int), rfl, by omega, by omega, for_range (lo := 0) (n := m) (fun i σ H' => ∃ (ys : List V) (v6 : Option V), σ = [some (.ref a), some (.int (n0 : Int)), some (.int (m : Int)), some (.str c), some (.ref mk), some (.ref jl), v6, none] ∧ Same H1 H' ∧ H' jl = some (.lst ys) ∧ Js H' ys ((joinsRow n0 i).map (tri (sgn ns))))
      ⟨[], none, rfl, s2, j2, .nil⟩ ?_ ?_⟩
    · rintro i σ H' hi ⟨ys, v6, rfl, sm, hj, hJ⟩
      have sS : SqL K H' a (ns.map V.int) := sm.seq (s1.seq hS)
      have ly : ys.length = i := by
        rw [Paired.length hJ, List.length_map, joinsRow_len]
      have e1 : ((n0 : Int) + (0 + (i : Int)) + 1).toNat = n0 + i + 1 := by omega
      have e2 : ((n0 : Int) + (0 + (i : Int))).toNat = n0 + i := by omega
      have e3 : ((n0 : Int) + (0 + (i : Int))) % 2 = (((n0 + i) % 2 : Nat) : Int) := by omega
      refine ⟨_, rfl, .inl ⟨rfl, _, SqL.of hj⟩, ?_⟩
      refine ⟨_, rfl, _, rfl, _, rfl, _, _, rfl, rfl, _, 1, rfl, rfl, a, ns, (n0 : Int) + (0 + (i : Int)) + 1, rfl, sS, by omega, ?_⟩
      refine ⟨_, rfl, _, rfl, _, rfl, _, _, rfl, rfl, a, ns, (n0 : Int) + (0 + (i : Int)), rfl, sS, by omega, ?_⟩
      refine ⟨_, rfl, _, rfl, _, rfl, _, _, rfl, rfl, _, 2, rfl, rfl, (by show (0 : Int) < 2; decide), mk, _, _, .int (sgn ns ((n0 + i) % 2)), rfl, rfl, SqL.of (sm _ _ m1), at_of e3 (marks_at ns (n0 + i)), ?_⟩
      refine ⟨(by show 3 ≤ sizeLine; decide), fun t nt => ?_⟩
      rw [e1, e2]
      have s3 : Same H' (upd H' t (.tup [.int (sgn ns (n0 + i + 1)), .int (sgn ns (n0 + i)), .int (sgn ns ((n0 + i) % 2))])) := same_upd nt
      have t3 : (upd H' t (.tup [.int (sgn ns (n0 + i + 1)), .int (sgn ns (n0 + i)), .int (sgn ns ((n0 + i) % 2))])) t = some (.tup [.int (sgn ns (n0 + i + 1)), .int (sgn ns (n0 + i)), .int (sgn ns ((n0 + i) % 2))]) := upd_same
      generalize (upd H' t (.tup [.int (sgn ns (n0 + i + 1)), .int (sgn ns (n0 + i)), .int (sgn ns ((n0 + i) % 2))])) = H3 at s3 t3 ⊢
      have j3 := s3 _ _ hj
      have tu : Tups H3 (upd H3 jl (.lst (ys ++ [.ref t]))) := Tups.upd fun xs z => by rw [j3] at z; cases z
      refine ⟨jl, ys, _, rfl, rfl, j3, small1000 (by omega), ?_⟩
      refine ⟨_, _, rfl, fun b x e => ?_, upd_same, ?_⟩
      · rw [upd_ne (ne_of_none e njl)]
        exact s3 _ _ (sm _ _ e)
      · rw [joinsRow_snoc, List.map_append]
        exact Paired.snoc ((hJ.mono (Same.tups s3)).mono tu) ⟨t, rfl, tu _ _ t3⟩
    · rintro σ H4 ⟨ys, v6, rfl, s4, j4, hJ⟩
      -- _law_told = []
      refine ⟨Nat.zero_le _, fun tl0 ntl => ?_⟩
      have s5 : Same H4 (upd H4 tl0 (.lst [])) := same_upd ntl
      have t5 : (upd H4 tl0 (.lst [])) tl0 = some (.lst []) := upd_same
      have nt0 : H tl0 = none := (s1.trans s4).free ntl
      have jt0 : tl0 ≠ jl := fun z => by rw [z, j4] at ntl; cases ntl
      generalize upd H4 tl0 (.lst []) = H5 at s5 t5 ⊢
      have j5 := s5 _ _ j4
      have hJ5 := hJ.mono (Same.tups s5)
      have s15 : Same H1 H5 := s4.trans s5
      refine ⟨_, rfl, rfl, _, rfl, ?_⟩
      by_cases hc : c = "plain"
      · have hcv : V.str c = V.str "plain" := congrArg V.str hc
        refine iteNS hcv ?_
        refine ⟨_, rfl, _, rfl, (by show 2 ≤ sizeLine; decide), fun t nt => ?_⟩
        have s6 : Same H5 (upd H5 t (.tup [.ref tl0, .ref jl])) := same_upd nt
        refine q _ t tl0 jl [] ys ((s1.trans s15).trans s6) nt0 nj0 jt0 upd_same (s6 _ _ t5) ?_ (s6 _ _ j5) (hJ5.mono (Same.tups s6))
        have e : toldRow DK n0 m c = [] := if_pos hc
        rw [e]
        exact .nil
      · have hcv : ¬ V.str c = V.str "plain" := fun z => hc (V.str.inj z)
        rw [decide_eq_false hcv]
        refine iteT ?_
        refine ⟨_, rfl, _, _, rfl, rfl, (m : Int) + 1, rfl, by omega, by omega, fun D nD => ?_⟩
        have nD0 : H D = none := (s1.trans s15).free nD
        have jD : D ≠ jl := fun z => by rw [z, j5] at nD; cases nD
        have em : ((m : Int) + 1).toNat = m + 1 := by omega
        rw [em]
        refine lc_range (lo := 0) (n := m + 1) (fun i H' => ∃ xs : List V, Same H5 H' ∧ H' D = some (.lst xs) ∧ Ts H' xs ((List.range i).map fun k => (sgn ns (n0 + k), c, (0 : Int))))
          ⟨[], same_upd nD, upd_same, .nil⟩ ?_ ?_
        · rintro i H' hi ⟨xs, sm, hD, hT⟩
          have sS : SqL K H' a (ns.map V.int) := sm.seq (s15.seq (s1.seq hS))
          have lx : xs.length = i := by
            rw [Paired.length hT, List.length_map, List.length_range]
          have e2 : ((n0 : Int) + (0 + (i : Int))).toNat = n0 + i := by omega
          refine ⟨rfl, ?_⟩
          unfold tYes
          refine iteT ?_
          refine ⟨_, rfl, _, rfl, _, rfl, _, _, rfl, rfl, a, ns, (n0 : Int) + (0 + (i : Int)), rfl, sS, by omega, ?_⟩
          refine ⟨_, rfl, (by show 3 ≤ sizeLine; decide), fun t nt => ?_⟩
          rw [e2]
          have s3 : Same H' (upd H' t (.tup [.int (sgn ns (n0 + i)), .str c, .int 0])) := same_upd nt
          have t3 : (upd H' t (.tup [.int (sgn ns (n0 + i)), .str c, .int 0])) t = some (.tup [.int (sgn ns (n0 + i)), .str c, .int 0]) := upd_same
          generalize (upd H' t (.tup [.int (sgn ns (n0 + i)), .str c, .int 0])) = H3 at s3 t3 ⊢
          have d3 := s3 _ _ hD
          have tu : Tups H3 (upd H3 D (.lst (xs ++ [.ref t]))) := Tups.upd fun xs z => by rw [d3] at z; cases z
          refine ⟨xs, d3, small1000 (by omega), xs ++ [.ref t], fun b x e => ?_, upd_same, ?_⟩
          · rw [upd_ne (ne_of_none e nD)]
            exact s3 _ _ (sm _ _ e)
          · rw [List.range_succ, List.map_append]
            exact Paired.snoc ((hT.mono (Same.tups s3)).mono tu) ⟨t, rfl, tu _ _ t3⟩
        · rintro H6 ⟨xs, s6, d6, hT⟩
          refine ⟨_, rfl, _, rfl, (by show 2 ≤ sizeLine; decide), fun t nt => ?_⟩
          have s7 : Same H6 (upd H6 t (.tup [.ref D, .ref jl])) := same_upd nt
          refine q _ t D jl xs ys (((s1.trans s15).trans s6).trans s7) nD0 nj0 jD upd_same (s7 _ _ d6) ?_ (s7 _ _ (s6 _ _ j5)) ((hJ5.mono (Same.tups s6)).mono (Same.tups s7))
          have e : (toldRow DK n0 m c).map (tl (sgn ns)) = (List.range (m + 1)).map fun k => (sgn ns (n0 + k), c, (0 : Int)) := by
            unfold toldRow
            rw [if_neg (show ¬ c = DK.plain from hc), List.map_map]
            rfl
          rw [e]
          exact hT.mono (Same.tups s7)
end
end Bk

namespace Bk
open PySem PySem.Spec PyProof.Rows L2 Bh
section
variable {P : Program} {w : World} {K : PySem.W.Frag} {mg : Str → Option Value} {base : Heap} {C CH CN : Addr}
/-! ### _law_goes -/
def spGoes (C : Addr) (K : PySem.W.Frag) : Sp := fun vs H Q _ => ∃ (p dx a b c d l : Addr) (hk : List (Key × V)) (js : List Tri) (ns : List Int) (n0 m : Nat), vs = [.ref p, .ref l, .int (n0 : Int), .int (m : Int)] ∧ H p = some (.ins C dx (bf a b c d)) ∧ H c = some (.dK hk) ∧ Hv H hk js ∧
  SqL K H l (ns.map V.int) ∧ m ≤ 100 ∧ (∀ k, k < m → look js (sgn ns (n0 + k + 1)) = some (sgn ns (n0 + k), sgn ns ((n0 + k) % 2))) ∧ look js (sgn ns n0) = none ∧ Q (.bl true) H
theorem scGo : FnScope ["_law_book", "_law_script", "_law_first", "_law_many", "_law_sign_here", "_law_k", "_law_found"] ["_law_book", "_law_script", "_law_first", "_law_many"] (defScope sGoes) := ⟨rfl, rfl, rfl, by decide +kernel, rfl, by decide +kernel, by decide +kernel⟩
theorem ok_goes {f fS fC fP : Addr} {fd fdS fdC fdP : FuncData} (F : Fun K "_law_goes" "_law_goes" sGoes f fd) (T : Txt K mg C CH CN)
    (FS : Fun K "_law_sign" "_law_sign" sSign fS fdS) (gS : mg "_law_sign" = some (.ref fS)) (bS : Binds K fdS ["_law_script", "_law_k"] [])
    (FC : Fun K "_law_cell_at" "_law_cell_at" sCell fC fdC) (gC : mg "_law_cell_at" = some (.ref fC)) (bC : Binds K fdC ["_law_script", "_law_k"] [])
    (FP : Fun K "parts" "Book.parts" sParts fP fdP) (bP : Binds K fdP ["self", "sign"] []) (mP : Meth K C "parts" fP) :
    FnOk P w K mg base CX0 3 f fd ["_law_book", "_law_script", "_law_first", "_law_many"] (spGoes C K) := by
  have GS : FnOk P w K mg base CX0 2 fS fdS ["_law_script", "_law_k"] (spSign K) := ok_sign FS T FC gC bC
  have GP : FnOk P w K mg base CX0 1 fP fdP ["self", "sign"] (spParts C) := ok_parts FP T
  refine F.ok scGo (fun vs H Q E h => ?_) (fun cdv A outer s H vs Q E hr h => ?_)
  · obtain ⟨p, dx, a, b, c, d, l, hk, js, ns, n0, m, rfl, _⟩ := h
    rfl
  · obtain ⟨p, dx, a, b, c, d, l, hk, js, ns, n0, m, rfl, hp, hc, hv, hS, hm, hg, h0, q⟩ := h
    have hr1 : Room 1 _ := hr.mono (by decide)
    refine ⟨_, pss_cons (ps_set (i := 4) scGo.nd rfl (.inl rfl) (pe_call GS hr (by rfl) gS FS.kp bS .nil pass0 (pa_cons (pv 1) (pa_cons (pe_op op_add (pv 2) (pv 3)) pa_nil))))
      (pss_cons (ps_for PassesOwn.never rfl (pi_range1 rfl T.mran (pa_cons (pv 3) pa_nil)) (pg_name (i := 5) scGo.nd rfl (.inl rfl))
        (pss_cons (ps_set (i := 6) scGo.nd rfl (.inl rfl) (pe_meth (pv 0) T.cl mP GP hr1 bP .nil pass0 (pa_cons (pv 4) pa_nil)))
        (pss_cons (ps_if (PW.pt (pw_or (pt_cmpR op_isN (pv 6) pe_non (nomark _)) (pw_or1 (pt_cmpR op_ne (pe_ix ix_tup (pv 6) pe_int (fun _ _ => rfl))
          (pe_call GS hr (by rfl) gS FS.kp bS .nil pass0 (pa_cons (pv 1) (pa_cons (pe_op op_sub (pe_op op_sub (pe_op op_add (pv 2) (pv 3)) (pv 5)) pe_int) pa_nil))) (nomark _))))) (pss_one (ps_ret pe_bl)) pss_nil)
        (pss_one (ps_set (i := 4) scGo.nd rfl (.inl rfl) (pe_ix ix_tup (pv 6) pe_int (fun _ _ => rfl)))))))
      (pss_one (ps_ret (pe_cmpR op_isN (pe_meth (pv 0) T.cl mP GP hr1 bP .nil pass0 (pa_cons (pv 4) pa_nil)) pe_non (nomark _))))), ?_⟩
    have no : (bf a b c d).lookup ("parts" : Str) = none := bf_no a b c d (by decide +kernel) (by decide +kernel) (by decide +kernel) (by decide +kernel)
    refine ⟨_, rfl, _, rfl, _, rfl, _, _, rfl, rfl, l, ns, (n0 : Int) + (m : Int), rfl, hS, by omega, ?_⟩
    have e0 : ((n0 : Int) + (m : Int)).toNat = n0 + m := by omega
    rw [e0]
    refine ⟨_, rfl, (m : Int), rfl, by omega, by omega, for_range (lo := 0) (n := m) (fun i σ H' => H' = H ∧ ∃ v5 v6 : Option V, σ = [some (.ref p), some (.ref l), some (.int (n0 : Int)), some (.int (m : Int)), some (.int (sgn ns (n0 + m - i))), v5, v6])
      ⟨rfl, none, none, rfl⟩ ?_ ?_⟩
    · rintro i σ H' hi ⟨rfl, v5, v6, rfl⟩
      have e1 : n0 + m - i = n0 + (m - i - 1) + 1 := by omega
      have hk1 := hg (m - i - 1) (by omega)
      rw [← e1] at hk1
      refine ⟨_, rfl, p, dx, _, rfl, hp, no, _, rfl, p, _, dx, a, b, c, d, hk, js, rfl, hp, hc, hv, fun z => ?_, fun y mk t z ht => ?_⟩
      · rw [hk1] at z; cases z
      · rw [hk1] at z
        cases z
        refine ⟨_, rfl, rfl, _, rfl, ?_⟩
        rw [decide_eq_false (show ¬ V.ref t = V.non from fun z => nomatch z)]
        have e2 : ((n0 : Int) + (m : Int) - (0 + (i : Int)) - 1).toNat = n0 + (m - i - 1) := by omega
        refine iteF ⟨_, rfl, t, _, 0, .int (sgn ns (n0 + (m - i - 1))), rfl, rfl, SqT.of ht, atI_nat (j := 0) rfl, ?_⟩
        refine ⟨_, rfl, _, rfl, _, rfl, _, _, rfl, rfl, _, rfl, _, _, rfl, rfl, _, 1, rfl, rfl, l, ns, (n0 : Int) + (m : Int) - (0 + (i : Int)) - 1, rfl, hS, by omega, ?_⟩
        rw [e2]
        refine ⟨rfl, _, rfl, iteNS rfl ?_⟩
        refine ⟨_, rfl, t, _, 0, .int (sgn ns (n0 + (m - i - 1))), rfl, rfl, SqT.of ht, atI_nat (j := 0) rfl, ?_⟩
        have e3 : n0 + m - (i + 1) = n0 + (m - i - 1) := by omega
        rw [← e3]
        exact ⟨rfl, _, _, rfl⟩
    · rintro σ H' ⟨rfl, v5, v6, rfl⟩
      have e4 : n0 + m - m = n0 := by omega
      rw [e4]
      refine ⟨_, rfl, p, dx, _, rfl, hp, no, _, rfl, p, _, dx, a, b, c, d, hk, js, rfl, hp, hc, hv, fun _ => ?_, fun y mk t z _ => ?_⟩
      · refine ⟨rfl, ?_⟩
        rw [decide_eq_true rfl]
        exact q
      · rw [h0] at z; cases z
end
/-! ### a class called within a try: what is raised is wished for at the slots as they stand -/
section
variable {X : Cx} {CX : CXT} {k : Nat} {f C : Addr} {fd : FuncData} {ps : List Str} {sp : Sp} {x : Str} {p pos : Pos} {e : Expr} {es : List Expr} {t : TA}
def tMakeS (C : Addr) (sp : Sp) (E : L2.St → XK) (t : TA) : TE := fun σ H Q => t σ H fun vs H1 => ∀ x dx, H1 x = none → H1 dx = none → dx ≠ x →
  sp (.ref x :: vs) (upd (upd H1 dx (.own x)) x (.ins C dx [])) (fun v H2 => v = .non ∧ Q (.ref x) H2) (E σ)
theorem made_at {pins : List (Addr × Obj)} {σ : L2.St} {H : Hp} {s : Shared} {Q : VK} {E : XK} {us : List Value} {vs : List V} (M : Mk X.K C f) (F : FnOk X.prog X.w X.K X.mg X.base CX k f fd ps sp) (hr : Room (k + 1) X.A) (hb : Binds X.K fd ps [])
    (hx : PassesAt CX X σ E) (I : Inv X pins σ H s) (r : Vals vs us)
    (h : ∀ x dx, H x = none → H dx = none → dx ≠ x → sp (.ref x :: vs) (upd (upd H dx (.own x)) x (.ins C dx [])) (fun v H2 => v = .non ∧ Q (.ref x) H2) E) :
    wpAny (model X.prog X.w) X.A (call (.ref C) us) (EP X pins σ Q) X.xe s := by
  have want := h (s.heap.objs.size + 1) s.heap.objs.size (I.hok.fresh (Nat.le_succ _)) (I.hok.fresh (Nat.le_refl _)) (Nat.ne_of_lt (Nat.lt_succ_self _))
  have J := Inv.made (C := C) I
  have rr : Vals (V.ref (s.heap.objs.size + 1) :: vs) (Value.ref (s.heap.objs.size + 1) :: us) := .cons rfl r
  have len : (Value.ref (s.heap.objs.size + 1) :: us).length = ps.length := rr.length.symm.trans (F.len _ _ _ _ want)
  have bb := hb _ (Value.ref (s.heap.objs.size + 1) :: us) J.kIn (by rw [List.append_nil]; exact len)
  rw [List.append_nil] at bb
  refine wpAny_call (make_map (f := f) I.kIn M.makes M.init (beq_iff_eq.mp M.fn) (codeAny_mono (F.run _ X.stack _ _ ⟨Value.ref (s.heap.objs.size + 1) :: us, []⟩ _ _ _ E (hr.make C us []) (J.env0.make C us []) bb rr want) fun r s' back => ?_))
  cases r with
  | error err => exact hx pins _ _ err s' J back
  | ok fl =>
    cases fl with
    | ret u =>
      obtain ⟨v, H', J3, rv, ev, q3⟩ := J.after back
      subst ev
      exact ⟨rv, ⟨V.ref (s.heap.objs.size + 1), H', J3, rfl, q3⟩⟩
    | next => exact False.elim back
    | brk => exact False.elim back
    | cont => exact False.elim back
theorem pe_makeS {E : L2.St → XK} (M : Mk X.K C f) (F : FnOk X.prog X.w X.K X.mg X.base CX k f fd ps sp) (hr : Room (k + 1) X.A) (hg : Gl X x) (hm : X.mg x = some (.ref C)) (hb : Binds X.K fd ps []) (hx : ∀ σ, PassesAt CX X σ (E σ))
    (args : PA X (e :: es) t) (nodebug : (x == ("__debug__" : Str)) = false := by decide)
    (nostar : starEach (e :: es) X.env = (false, eval e X.env) :: starEach es X.env := by rfl) (plain : (backTo pos (starEach es X.env)).any (·.1) = false := by rfl) :
    PE X (.Call (.Name x p) (e :: es) [] pos) (tMakeS C sp E t) := by
  constructor
  intro pins s0 slots H0 want I0 hread
  have evaluated := thn (args.run pos pins s0 slots H0 _ I0 hread) fun us s1 ⟨vs, H1, I1, r, q⟩ => (⟨I1.kIn, made_at M F hr hb (hx slots) I1 r q⟩ : X.K.In s1.heap ∧ _)
  exact wpAny_Call_Name_kw (ld_glob I0 hg hm (PySem.W.callWith_K (h₀ := X.base) I0.ok.mod.kin M.kp evaluated nostar plain) nodebug)
/-- a block whose reading holds only where p does -/
theorem pss_if {st : List Stmt} {t : TS} {p : Prop} (h : p → PSs X st t) : PSs X st (fun D σ H => p ∧ t D σ H) := ⟨fun pins s σ H D I hw => (h hw.1).run pins s σ H D I hw.2⟩
end
end Bk

namespace Bk
open PySem PySem.Spec PyProof.Rows L2 Bh
section
variable {P : Program} {w : World} {K : PySem.W.Frag} {mg : Str → Option Value} {base : Heap} {C CH CN : Addr}
/-! ### _law_refused -/
def spRefused : Sp := fun vs H Q _ => ∃ (t l : Addr) (xs ys : List V) (told : List (Int × Str × Int)) (js : List Tri), vs = [.ref t, .ref l] ∧ H t = some (.lst xs) ∧ Ts H xs told ∧ H l = some (.lst ys) ∧ Js H ys js ∧ TOk DK told ∧ JOk DK told js ∧
  told.length ≤ 1000 ∧ js.length ≤ 1000 ∧ (∃ wh ∈ js.map (·.1), Go js 8 wh) ∧ ∀ H', Same H H' → Q (.bl true) H'
theorem scRf : FnScope ["_law_told", "_law_joins", "_law_refused_here", "e"] ["_law_told", "_law_joins"] (defScope sRefused) := ⟨rfl, rfl, rfl, by decide +kernel, rfl, by decide +kernel, by decide +kernel⟩
/-- an instance made, then what was kept but for it -/
theorem made_same {p dx : Addr} {H H' : Hp} (np : H p = none) (nd : H dx = none) (k : Kept p (upd (upd H dx (.own p)) p (.ins C dx [])) H') : Same H H' := fun b o e => by
  have nb : b ≠ p := ne_of_none e np
  refine k b o ?_ nb
  rw [upd_ne nb, upd_ne (ne_of_none e nd)]
  exact e
theorem made_up {p dx : Addr} {H : Hp} (np : H p = none) (nd : H dx = none) : Same H (upd (upd H dx (.own p)) p (.ins C dx [])) := made_same np nd fun _ _ e _ => e
/-- the suite: _law_refused_here = isinstance(e, NoBook) -/
def t_suite (K : PySem.W.Frag) (CN : Addr) : Addr → Value → Option Addr → TS := fun a cls d D σ H => (cls = .ref CN ∧ d = none) ∧ tAsg (tCB (rIsE K CN a) (tCons (tVar 3) (tCons (tC (.ref CN)) tNil))) (gName 2) D σ H
theorem ok_refused {f fI : Addr} {fd fdI : FuncData} (F : Fun K "_law_refused" "_law_refused" sRefused f fd) (T : Txt K mg C CH CN) (M : Mk K C fI) (bI : Binds K fdI ["self", "signs", "mates", "joins"] [])
    (GI : FnOk P w K mg base (L2.CX P w) 3 fI fdI ["self", "signs", "mates", "joins"] (spInit C CN)) : FnOk P w K mg base CX0 5 f fd ["_law_told", "_law_joins"] spRefused := by
  refine F.ok scRf (fun vs H Q E h => ?_) (fun cdv A outer s H vs Q E hr h => ?_)
  · obtain ⟨t, l, xs, ys, told, js, rfl, _⟩ := h
    rfl
  · obtain ⟨t, l, xs, ys, told, js, rfl, ht, hT, hl, hJ, tok, jok, l1, l2, hg, q⟩ := h
    refine ⟨_, pss_cons (ps_set (i := 2) scRf.nd rfl (.inl rfl) pe_bl)
      (pss_cons (ps_try_as (i := 3) (tb := fun W => tDrop (tMakeS C (spInit C CN) (WE W) (tCons (tVar 0) (tCons (tLst tNil) (tCons (tVar 1) tNil))))) (ts := t_suite K CN) (Wout := fun _ _ _ _ => False) rfl rfl scRf.nd rfl rfl ⟨rfl, by decide, Or.inl T.gH⟩ takes0
        (fun W pn xe tk _ => pss_one (ps_expr (by exact (pe_makeS M GI hr rfl T.gC bI (fun σ => passAt tk σ) (by exact (pa_cons (pv 0) (pa_cons (pe_lst pa_nil) (pa_cons (pv 1) pa_nil))))))))
        (fun a oe cls d pn hz hf => pss_if fun z => by
          obtain ⟨rfl, rfl⟩ := z
          exact pss_one (ps_set (i := 2) scRf.nd rfl (.inl rfl) (by exact (pe_callB (call_isE T.ec hz hf) (by rfl) T.misi boot_isinstance (by exact (pa_cons (pv 3) (pa_cons (pe_glob (v := .ref CN) (by rfl) T.gN rfl) pa_nil))))))))
      (pss_one (ps_ret (pv 2)))), ?_⟩
    refine ⟨_, rfl, Nat.zero_le _, fun m nm => ⟨_, rfl, fun x dx nx ndx nex => ?_⟩⟩
    have s1 : Same H (upd H m (.lst [])) := same_upd nm
    have m1 : (upd H m (.lst [])) m = some (.lst []) := upd_same
    generalize upd H m (.lst []) = H1 at s1 m1 nx ndx ⊢
    have s2 := made_up (C := C) nx ndx
    have tt := (Same.tups s1).trans (Same.tups s2)
    refine ⟨x, dx, t, m, l, xs, ys, told, js, rfl, upd_same, s2 _ _ (s1 _ _ ht), hT.mono tt, s2 _ _ m1, s2 _ _ (s1 _ _ hl), hJ.mono tt, tok, jok, l1, l2, fun _ H' k => ?_, fun z => ?_⟩
    · have s3 : Same H H' := s1.trans (made_same nx ndx k)
      refine ⟨true, T.eN, fun _ a _ => ⟨⟨rfl, rfl⟩, ?_⟩, fun z => Bool.noConfusion z⟩
      refine ⟨_, rfl, .ref CN, .ref CN, true, rfl, fun u r => r, if_pos (beq_self_eq_true _), ?_⟩
      exact ⟨_, rfl, q _ s3⟩
    · obtain ⟨wh, hw, hgo⟩ := hg
      exact absurd hgo (z wh hw)
end
end Bk

namespace Bk
open PySem PySem.Spec PyProof.Rows L2 Bh
abbrev lawN : List Str := ["_law_script", "_law_told", "_law_joins", "_law_rows", "_law_cell", "_law_first", "_law_more", "_law_some", "_law_book", "_law_many", "_law_at", "_law_cut"]
theorem scLw : FnScope lawN ["_law_script"] (defScope sLaw) := ⟨rfl, rfl, rfl, by decide +kernel, rfl, by decide +kernel, by decide +kernel⟩
/-- the block of an if -/
def thenOf (s : Stmt) : List Stmt := match s with
  | .If _ b _ _ => b
  | _ => []
theorem cutV_take {xs : List V} {k : Nat} (h : k ≤ xs.length) : cutV xs none (some (k : Int)) = xs.take k := by
  unfold cutV
  rw [HT.sIx_none, HT.sIx_nat, Nat.min_eq_left h]
  rfl
theorem cutV_drop {xs : List V} {k : Nat} (h : k ≤ xs.length) : cutV xs (some (k : Int)) none = xs.drop k := by
  unfold cutV
  rw [HT.sIx_none, HT.sIx_nat, Nat.min_eq_left h]
  exact List.take_of_length_le (by rw [List.length_drop]; omega)
/-- the facts that the law's walk is handed -/
structure Fs (P : Program) (w : World) (K : PySem.W.Frag) (mg : Str → Option Value) (base : Heap) (C CH CN fI fS fC fP fR fK fT fF fO : Addr) (fdI fdS fdC fdP fdR fdK fdT fdF fdO : FuncData) : Prop where
  M : Mk K C fI
  bI : L2.Binds K fdI ["self", "signs", "mates", "joins"] []
  GI : FnOk P w K mg base (L2.CX P w) 3 fI fdI ["self", "signs", "mates", "joins"] (spInit C CN)
  GS : FnOk P w K mg base CX0 2 fS fdS ["_law_script", "_law_k"] (spSign K)
  gS : mg "_law_sign" = some (.ref fS)
  kS : PySem.W.keepIn K (.ref fS) = true
  bS : L2.Binds K fdS ["_law_script", "_law_k"] []
  GC : FnOk P w K mg base CX0 1 fC fdC ["_law_script", "_law_k"] (spCell K)
  gC : mg "_law_cell_at" = some (.ref fC)
  kC : PySem.W.keepIn K (.ref fC) = true
  bC : L2.Binds K fdC ["_law_script", "_law_k"] []
  GP : FnOk P w K mg base CX0 1 fP fdP ["self", "sign"] (spParts C)
  mP : Meth K C "parts" fP
  bP : L2.Binds K fdP ["self", "sign"] []
  GR : FnOk P w K mg base CX0 3 fR fdR ["_law_script", "_law_first", "_law_many", "_law_kind_here"] (spRow K)
  gR : mg "_law_row" = some (.ref fR)
  kR : PySem.W.keepIn K (.ref fR) = true
  bR : L2.Binds K fdR ["_law_script", "_law_first", "_law_many", "_law_kind_here"] []
  GK : FnOk P w K mg base CX0 1 fK fdK ["_law_cell"] spKindL
  gK : mg "_law_kind" = some (.ref fK)
  kK : PySem.W.keepIn K (.ref fK) = true
  bK : L2.Binds K fdK ["_law_cell"] []
  GT : FnOk P w K mg base CX0 1 fT fdT ["_law_joins", "_law_cell"] (spTurned K)
  gT : mg "_law_turned" = some (.ref fT)
  kT : PySem.W.keepIn K (.ref fT) = true
  bT : L2.Binds K fdT ["_law_joins", "_law_cell"] []
  GF : FnOk P w K mg base CX0 5 fF fdF ["_law_told", "_law_joins"] spRefused
  gF : mg "_law_refused" = some (.ref fF)
  kF : PySem.W.keepIn K (.ref fF) = true
  bF : L2.Binds K fdF ["_law_told", "_law_joins"] []
  GO : FnOk P w K mg base CX0 3 fO fdO ["_law_book", "_law_script", "_law_first", "_law_many"] (spGoes C K)
  gO : mg "_law_goes" = some (.ref fO)
  kO : PySem.W.keepIn K (.ref fO) = true
  bO : L2.Binds K fdO ["_law_book", "_law_script", "_law_first", "_law_many"] []
/-- what stands when the last book is made -/
def AtThen (ns : List Int) (σ : L2.St) (H : Hp) : Prop := ∃ (v0 v3 v5 v8 v9 : Option V) (at_ aj al as_ ac : Addr) (xs ys ms ss cs : List V) (told more : List (Int × Str × Int)) (js ks : List Tri) (c2 : Int) (a0 : Nat) (u : Tri),
  σ = [v0, some (.ref at_), some (.ref aj), v3, some (.int c2), v5, some (.ref al), some (.ref as_), v8, v9, some (.int (a0 : Int)), some (.ref ac)] ∧
  H at_ = some (.lst xs) ∧ Ts H xs told ∧ H aj = some (.lst ys) ∧ Js H ys js ∧ H al = some (.lst ms) ∧ Ts H ms more ∧ H ac = some (.lst cs) ∧ Js H cs ks ∧ H as_ = some (.lst ss) ∧
  (∃ t, ss[a0]? = some (.ref t) ∧ H t = some (.tup [.int u.1, .int u.2.1, .int u.2.2])) ∧ xs.length + ms.length ≤ 1000 ∧ cs.length + ys.length ≤ 1000 ∧
  ∀ js', js'.Perm (ks ++ js) → TOk DK (told ++ more) ∧ JOk DK (told ++ more) js' ∧ (∀ wh ∈ js'.map (·.1), ¬ Go js' 8 wh) ∧ look js' u.1 = none
section
variable {P : Program} {w : World} {K : PySem.W.Frag} {mg : Str → Option Value} {base : Heap} {C CH CN fI fS fC fP fR fK fT fF fO : Addr} {fdI fdS fdC fdP fdR fdK fdT fdF fdO : FuncData}
theorem then_ok (T : Txt K mg C CH CN) (Z : Fs P w K mg base C CH CN fI fS fC fP fR fK fT fF fO fdI fdS fdC fdP fdR fdK fdT fdF fdO) {f : Addr} {cdv : Value} {A : Around} {outer : List Env} {s : Shared} {H0 : Hp} {Q : VK} {E : XK} {ns : List Int}
    (hr : Room 5 (A.deeper (envOfC "law" (defScope sLaw) s.heap.objs.size f cdv))) (q : ∀ H', Q (.bl true) H') :
    ∃ t, PSs (cxOf CX0 P w K mg base lawN "law" (defScope sLaw) f cdv A outer s H0 E).nox (thenOf ((defBody sLaw).getD 14 (.Pass ⟨0, 0, 0, 0⟩))) t ∧
      ∀ (nx : L2.St → Hp → Prop) σ H, AtThen ns σ H → t { nx := nx, rt := Q } σ H := by
  have hr1 : Room 1 (A.deeper (envOfC "law" (defScope sLaw) s.heap.objs.size f cdv)) := hr.mono (by decide)
  have hr4 : Room 4 (A.deeper (envOfC "law" (defScope sLaw) s.heap.objs.size f cdv)) := hr.mono (by decide)
  refine ⟨_, pss_one (ps_ret (pe_cmpR op_isN (pe_meth (pe_make Z.M Z.GI hr4 (by rfl) T.gC Z.bI .nil passL (pa_cons (pe_op op_cat (pv 1) (pv 6)) (pa_cons (pe_lst pa_nil)
      (pa_cons (pe_call Z.GT hr1 (by rfl) Z.gT Z.kT Z.bT .nil pass0 (pa_cons (pe_op op_cat (pv 11) (pv 2)) (pa_cons (pe_op op_fdiv (pv 4) pe_int) pa_nil))) pa_nil))))
    T.cl Z.mP Z.GP hr1 Z.bP .nil pass0 (pa_cons (pe_ix ix_tup (pe_ix ix_list (pv 7) (pv 10) (fun _ _ => rfl)) pe_int (fun _ _ => rfl)) pa_nil)) pe_non (nomark _))), ?_⟩
  rintro nx_ σ H ⟨v0, v3, v5, v8, v9, at_, aj, al, as_, ac, xs, ys, ms, ss, cs, told, more, js, ks, c2, a0, u, rfl, ht, hT, hj, hJ, hl, hM, hc, hC, hs, ⟨tu, hu1, hu2⟩, le1, le2, hok⟩
  have lx : told.length = xs.length := (Paired.length hT).symm
  have lm : more.length = ms.length := (Paired.length hM).symm
  have lc : ks.length = cs.length := (Paired.length hC).symm
  have ly : js.length = ys.length := (Paired.length hJ).symm
  have big : (1000 : Nat) ≤ sizeLine := by decide
  refine ⟨_, rfl, _, rfl, at_, al, xs, ms, rfl, rfl, ht, hl, Nat.le_trans le1 big, fun p1 n1 => ?_⟩
  have s1 : Same H (upd H p1 (.lst (xs ++ ms))) := same_upd n1
  have e1 : (upd H p1 (.lst (xs ++ ms))) p1 = some (.lst (xs ++ ms)) := upd_same
  generalize upd H p1 (.lst (xs ++ ms)) = H1 at s1 e1 ⊢
  refine ⟨Nat.zero_le _, fun pm nm => ?_⟩
  have s2 : Same H1 (upd H1 pm (.lst [])) := same_upd nm
  have e2 : (upd H1 pm (.lst [])) pm = some (.lst []) := upd_same
  generalize upd H1 pm (.lst []) = H2 at s2 e2 ⊢
  have s02 := s1.trans s2
  refine ⟨_, rfl, _, rfl, ac, aj, cs, ys, rfl, rfl, s02 _ _ hc, s02 _ _ hj, Nat.le_trans le2 big, fun p2 n2 => ?_⟩
  have s3 : Same H2 (upd H2 p2 (.lst (cs ++ ys))) := same_upd n2
  have e3 : (upd H2 p2 (.lst (cs ++ ys))) p2 = some (.lst (cs ++ ys)) := upd_same
  generalize upd H2 p2 (.lst (cs ++ ys)) = H3 at s3 e3 ⊢
  refine ⟨_, rfl, _, 11, rfl, rfl, ⟨by decide, by decide⟩, p2, cs ++ ys, _, rfl, SqL.of e3, by rw [List.length_append]; exact le2, fun H4 l' zs s4 nl el pmz => ?_⟩
  intro x dx nx ndx nex
  have s5 := made_up (C := C) nx ndx
  have s03 := s02.trans s3
  have s04 := s03.trans s4
  have s05 := s04.trans s5
  obtain ⟨js', hJ', pj⟩ := Paired.perm pmz (Paired.app (hC.mono (Same.tups s05)) (hJ.mono (Same.tups s05)))
  obtain ⟨tok, jok, ngo, gone⟩ := hok js' pj
  have lz : js'.length ≤ 1000 := by
    rw [pj.length_eq, List.length_append]
    omega
  refine ⟨x, dx, p1, pm, l', xs ++ ms, zs, told ++ more, js', rfl, upd_same, ((s2.trans s3).trans (s4.trans s5)) _ _ e1, Paired.app (hT.mono (Same.tups s05)) (hM.mono (Same.tups s05)), (s3.trans (s4.trans s5)) _ _ e2, s5 _ _ el, hJ', tok, jok, by rw [List.length_append]; omega, lz,
    fun z => ?_, fun _ H6 a b c d kk hk B k6 => ?_⟩
  · obtain ⟨wh, hw, hg⟩ := z
    exact absurd hg (ngo wh hw)
  · have s6 : Same H H6 := s04.trans (made_same nx ndx k6)
    have no : (bf a b c d).lookup ("parts" : Str) = none := bf_no a b c d (by decide +kernel) (by decide +kernel) (by decide +kernel) (by decide +kernel)
    refine ⟨rfl, x, dx, _, rfl, B.ob, no, _, rfl, _, rfl, as_, ss, (a0 : Int), .ref tu, rfl, rfl, SqL.of (s6 _ _ hs), atI_nat hu1, tu, _, 0, .int u.1, rfl, rfl, SqT.of (s6 _ _ hu2), atI_nat (j := 0) rfl, ?_⟩
    refine ⟨x, u.1, dx, a, b, c, d, hk, js', rfl, B.ob, B.hb, B.hv, fun _ => ⟨rfl, ?_⟩, fun y mk t z _ => ?_⟩
    · rw [decide_eq_true rfl]
      exact q _
    · rw [gone] at z
      cases z
end
end Bk

namespace Bk
open PySem PySem.Spec PyProof.Rows L2 Bh
/-- what stands behind the row more -/
def At12 (ns : List Int) (σ : L2.St) (H : Hp) : Prop := ∃ (v0 v3 v5 v8 v9 : Option V) (at_ aj al as_ : Addr) (xs ys ms ss : List V) (i m : Nat) (c : Str) (T : List (Nat × Str × Int)) (J S : List ITri) (R : List (Nat × Nat)) (js : List Tri) (c2 : Int),
  σ = [v0, some (.ref at_), some (.ref aj), v3, some (.int c2), v5, some (.ref al), some (.ref as_), v8, v9, none, none] ∧
  H at_ = some (.lst xs) ∧ Ts H xs (T.map (tl (sgn ns))) ∧ H aj = some (.lst ys) ∧ Js H ys js ∧ js.Perm (J.map (tri (sgn ns))) ∧ Rows DK i T J R ∧ i ≤ 4 ∧ T.length ≤ 100 ∧ J.length ≤ 100 ∧ c ∈ joinedL ∧
  H al = some (.lst ms) ∧ Ts H ms ((toldRow DK 70 m c).map (tl (sgn ns))) ∧ H as_ = some (.lst ss) ∧ Js H ss (S.map (tri (sgn ns))) ∧
  ((c2 / 25 % 2 = 1 ∧ m ≤ 6 ∧ ∃ q, q < 2 ∧ S = joinsRow 70 m ++ [(70, 70 + m, q)]) ∨ (¬ c2 / 25 % 2 = 1 ∧ 8 ≤ m ∧ m ≤ 12 ∧ S = joinsRow 70 m))
theorem toldRow_len (m : Nat) (c : Str) : (toldRow DK 70 m c).length ≤ m + 1 := by
  unfold toldRow
  by_cases h : c = DK.plain
  · rw [if_pos h]; exact Nat.zero_le _
  · rw [if_neg h, List.length_map, List.length_range]; exact Nat.le_refl _
section
variable {P : Program} {w : World} {K : PySem.W.Frag} {mg : Str → Option Value} {base : Heap} {C CH CN fI fS fC fP fR fK fT fF fO : Addr} {fdI fdS fdC fdP fdR fdK fdT fdF fdO : FuncData}
theorem rest_ok (T : Txt K mg C CH CN) (Z : Fs P w K mg base C CH CN fI fS fC fP fR fK fT fF fO fdI fdS fdC fdP fdR fdK fdT fdF fdO) {f : Addr} {cdv : Value} {A : Around} {outer : List Env} {s : Shared} {H0 : Hp} {Q : VK} {E : XK} {ns : List Int}
    (hr : Room 5 (A.deeper (envOfC "law" (defScope sLaw) s.heap.objs.size f cdv))) (q : ∀ H', Q (.bl true) H') :
    ∃ t, PSs (cxOf CX0 P w K mg base lawN "law" (defScope sLaw) f cdv A outer s H0 E).nox ((defBody sLaw).drop 11) t ∧
      ∀ σ H, At12 ns σ H → t { nx := fun _ H' => Q .non H', rt := Q } σ H := by
  have hr1 : Room 1 (A.deeper (envOfC "law" (defScope sLaw) s.heap.objs.size f cdv)) := hr.mono (by decide)
  obtain ⟨tT, hT, qT⟩ := then_ok (H0 := H0) (E := E) (outer := outer) (ns := ns) T Z hr q
  refine ⟨_, pss_cons (ps_if (pt_not (pt_val (pe_call Z.GF hr (by rfl) Z.gF Z.kF Z.bF .nil pass0 (pa_cons (pe_op op_cat (pv 1) (pv 6)) (pa_cons (pe_call Z.GT hr1 (by rfl) Z.gT Z.kT Z.bT .nil pass0 (pa_cons (pe_op op_cat (pv 2) (pv 7)) (pa_cons (pe_op op_fdiv (pv 4) pe_int) pa_nil))) pa_nil))))) (pss_one (ps_ret pe_bl)) pss_nil)
    (pss_cons (ps_set (i := 10) scLw.nd rfl (.inl rfl) (pe_op op_mod (pe_op op_fdiv (pv 4) pe_int) (pe_callB call_len_seq (by rfl) T.mlen PySem.boot_len (pa_cons (pv 7) pa_nil))))
    (pss_cons (ps_set (i := 11) scLw.nd rfl (.inl rfl) (pe_op op_cat (pe_slice sl_list (pv 7) po_none (po_some (pv 10))) (pe_slice sl_list (pv 7) (po_some (pe_op op_add (pv 10) pe_int)) po_none)))
    (pss_cons (ps_if (PW.pt (pw_or (pt_cmpR op_eq (pe_op op_mod (pe_op op_fdiv (pv 4) pe_int) pe_int) pe_int (nomark _))
        (pw_or1 (PW.pt (pw_and (pt_cmpR op_lt (pv 10) pe_int (nomark _)) (pw_and1 (pt_cmpR op_lt (pe_op op_sub (pe_callB call_len_seq (by rfl) T.mlen PySem.boot_len (pa_cons (pv 11) pa_nil)) (pv 10)) pe_int (nomark _)))))))) hT pss_nil)
    (pss_one (ps_ret (pe_call Z.GF hr (by rfl) Z.gF Z.kF Z.bF .nil pass0 (pa_cons (pe_op op_cat (pv 1) (pv 6)) (pa_cons (pe_op op_cat (pv 11) (pv 2)) pa_nil)))))))), ?_⟩
  rintro σ H ⟨v0, v3, v5, v8, v9, at_, aj, al, as_, xs, ys, ms, ss, i, m, c, T', J, S, R, js, c2, rfl, ht, hTs, hj, hJ, pj, rw_, hi, lT, lJ, hc, hl, hM, hs, hS, way⟩
  have Sg := sgn_sig ns
  have hm : m ≤ 12 := by
    rcases way with ⟨_, h, _⟩ | ⟨_, _, h, _⟩
    · omega
    · exact h
  have MS : More m S := by
    rcases way with ⟨_, _, q', hq', rfl⟩ | ⟨_, _, _, rfl⟩
    · exact More.round m q' hq'
    · exact More.line m
  have lS : S.length ≤ m + 1 ∧ 0 < S.length := by
    rcases way with ⟨_, _, q', hq', rfl⟩ | ⟨_, h8, _, rfl⟩
    · rw [List.length_append, joinsRow_len, List.length_singleton]; omega
    · rw [joinsRow_len]; omega
  have lx : xs.length = T'.length := by rw [Paired.length hTs, List.length_map]
  have ly : ys.length = J.length := by rw [Paired.length hJ, pj.length_eq, List.length_map]
  have lm : ms.length ≤ m + 1 := by
    rw [Paired.length hM, List.length_map]
    exact toldRow_len m c
  have lss : ss.length = S.length := by rw [Paired.length hS, List.length_map]
  have big : (1000 : Nat) ≤ sizeLine := by decide
  have both : ∀ {U : List ITri} {js' : List Tri}, More m U → js'.Perm ((J ++ U).map (tri (sgn ns))) → TOk DK (T'.map (tl (sgn ns)) ++ (toldRow DK 70 m c).map (tl (sgn ns))) ∧ JOk DK (T'.map (tl (sgn ns)) ++ (toldRow DK 70 m c).map (tl (sgn ns))) js' := fun MU p' => by
    rw [← List.map_append]
    exact rw_.both hi Sg MU hm hc p'
  have perm2 : ∀ {U : List ITri} {js' : List Tri}, js'.Perm (js ++ U.map (tri (sgn ns))) → js'.Perm ((J ++ U).map (tri (sgn ns))) := fun p' => by
    rw [List.map_append]
    exact p'.trans (pj.append_right _)
  -- if not _law_refused(_law_told + _law_more, _law_turned(_law_joins + _law_some, _law_cell // 7))
  refine ⟨_, rfl, _, rfl, at_, al, xs, ms, rfl, rfl, ht, hl, by omega, fun p1 n1 => ?_⟩
  have s1 : Same H (upd H p1 (.lst (xs ++ ms))) := same_upd n1
  have e1 : (upd H p1 (.lst (xs ++ ms))) p1 = some (.lst (xs ++ ms)) := upd_same
  generalize upd H p1 (.lst (xs ++ ms)) = H1 at s1 e1 ⊢
  refine ⟨_, rfl, _, rfl, aj, as_, ys, ss, rfl, rfl, s1 _ _ hj, s1 _ _ hs, by omega, fun p2 n2 => ?_⟩
  have s2 : Same H1 (upd H1 p2 (.lst (ys ++ ss))) := same_upd n2
  have e2 : (upd H1 p2 (.lst (ys ++ ss))) p2 = some (.lst (ys ++ ss)) := upd_same
  generalize upd H1 p2 (.lst (ys ++ ss)) = H2 at s2 e2 ⊢
  have s02 := s1.trans s2
  refine ⟨_, rfl, _, 7, rfl, rfl, ⟨by decide, by decide⟩, p2, ys ++ ss, _, rfl, SqL.of e2, by rw [List.length_append]; omega, fun H3 l' zs s3 nl el pmz => ?_⟩
  have s03 := s02.trans s3
  obtain ⟨js', hJ', pj'⟩ := Paired.perm pmz (Paired.app (hJ.mono (Same.tups s03)) (hS.mono (Same.tups s03)))
  have pj2 := perm2 pj'
  obtain ⟨tok, jok⟩ := both MS pj2
  have lz : js'.length ≤ 1000 := by
    rw [pj2.length_eq, List.length_map, List.length_append]
    omega
  have go1 : ∃ wh ∈ js'.map (·.1), Go js' 8 wh := by
    rcases way with ⟨_, _, q', hq', rfl⟩ | ⟨_, h8, _, rfl⟩
    · exact go_back jok.ndW pj2
    · exact go_line h8 jok.ndW pj2
  refine ⟨p1, l', xs ++ ms, zs, _, js', rfl, (s2.trans s3) _ _ e1, Paired.app (hTs.mono (Same.tups s03)) (hM.mono (Same.tups s03)), el, hJ', tok, jok, by rw [List.length_append, List.length_map, List.length_map]; have := toldRow_len m c; omega, lz, go1, fun H4 s4 => ⟨true, rfl, ?_⟩⟩
  refine iteF ?_
  have s04 := s03.trans s4
  have ht4 := s04 _ _ ht
  have hj4 := s04 _ _ hj
  have hl4 := s04 _ _ hl
  have hs4 := s04 _ _ hs
  have hTs4 := hTs.mono (Same.tups s04)
  have hJ4 := hJ.mono (Same.tups s04)
  have hM4 := hM.mono (Same.tups s04)
  have hS4 := hS.mono (Same.tups s04)
  -- _law_at
  have posl : (0 : Int) < (ss.length : Int) := by omega
  refine ⟨_, rfl, _, 50, rfl, rfl, ⟨by decide, by decide⟩, _, rfl, as_, ss, rfl, .inl (SqL.of hs4), _, _, rfl, rfl, posl, ?_⟩
  obtain ⟨a0, ha0⟩ : ∃ a0 : Nat, c2 / 50 % (ss.length : Int) = (a0 : Int) := ⟨(c2 / 50 % (ss.length : Int)).toNat, by have := Int.emod_nonneg (c2 / 50) (b := (ss.length : Int)) (by omega); omega⟩
  have a0l : a0 < ss.length := by
    have := Int.emod_lt_of_pos (c2 / 50) posl
    omega
  show gName 10 (V.int (c2 / 50 % (ss.length : Int))) _ _ _
  rw [ha0]
  -- _law_cut
  refine ⟨_, rfl, _, rfl, (a0 : Int), rfl, as_, ss, rfl, SqL.of hs4, fun p5 n5 => ?_⟩
  rw [cutV_take (Nat.le_of_lt a0l)]
  have s5 : Same H4 (upd H4 p5 (.lst (ss.take a0))) := same_upd n5
  have e5 : (upd H4 p5 (.lst (ss.take a0))) p5 = some (.lst (ss.take a0)) := upd_same
  generalize upd H4 p5 (.lst (ss.take a0)) = H5 at s5 e5 ⊢
  refine ⟨_, rfl, _, rfl, (a0 : Int), 1, rfl, rfl, ((a0 + 1 : Nat) : Int), rfl, as_, ss, rfl, SqL.of (s5 _ _ hs4), fun p6 n6 => ?_⟩
  rw [cutV_drop (show a0 + 1 ≤ ss.length from a0l)]
  have s6 : Same H5 (upd H5 p6 (.lst (ss.drop (a0 + 1)))) := same_upd n6
  have e6 : (upd H5 p6 (.lst (ss.drop (a0 + 1)))) p6 = some (.lst (ss.drop (a0 + 1))) := upd_same
  generalize upd H5 p6 (.lst (ss.drop (a0 + 1))) = H6 at s6 e6 ⊢
  have l5 : (ss.take a0).length ≤ ss.length := List.length_take_le' _ _
  have l6 : (ss.drop (a0 + 1)).length ≤ ss.length := by rw [List.length_drop]; omega
  refine ⟨p5, p6, _, _, rfl, rfl, s6 _ _ e5, e6, by omega, fun ac nc => ?_⟩
  have s7 : Same H6 (upd H6 ac (.lst (ss.take a0 ++ ss.drop (a0 + 1)))) := same_upd nc
  have e7 : (upd H6 ac (.lst (ss.take a0 ++ ss.drop (a0 + 1)))) ac = some (.lst (ss.take a0 ++ ss.drop (a0 + 1))) := upd_same
  generalize upd H6 ac (.lst (ss.take a0 ++ ss.drop (a0 + 1))) = H7 at s7 e7 ⊢
  have s47 := (s5.trans s6).trans s7
  have hC7 : Js H7 (ss.take a0 ++ ss.drop (a0 + 1)) ((cut S a0).map (tri (sgn ns))) := by
    have z := Paired.app (Paired.takeP a0 (hS4.mono (Same.tups s47))) (Paired.dropP (a0 + 1) (hS4.mono (Same.tups s47)))
    rw [← List.map_take, ← List.map_drop, ← List.map_append] at z
    exact z
  have lcs : (ss.take a0 ++ ss.drop (a0 + 1)).length = S.length - 1 := by
    rw [Paired.length hC7, List.length_map]
    exact cut_len (by omega)
  have MC : More m (cut S a0) := MS.sub (cut_sub S a0)
  have permC : ∀ {js' : List Tri}, js'.Perm ((cut S a0).map (tri (sgn ns)) ++ js) → js'.Perm ((J ++ cut S a0).map (tri (sgn ns))) := fun p' => perm2 (p'.trans List.perm_append_comm)
  -- the block where it makes a book
  have then_ : (∀ js' : List Tri, js'.Perm ((J ++ cut S a0).map (tri (sgn ns))) → ∀ wh ∈ js'.map (·.1), ¬ Go js' 8 wh) →
      ∀ nx_, tT { nx := nx_, rt := Q } [v0, some (.ref at_), some (.ref aj), v3, some (.int c2), v5, some (.ref al), some (.ref as_), v8, v9, some (.int (a0 : Int)), some (.ref ac)] H7 := fun ngo nx_ => by
    obtain ⟨j0, hj0⟩ : ∃ j0, S[a0]? = some j0 := ⟨S[a0]'(by omega), List.getElem?_eq_getElem _⟩
    have hj1 : (S.map (tri (sgn ns)))[a0]? = some (tri (sgn ns) j0) := by rw [List.getElem?_map, hj0]; rfl
    obtain ⟨vu, hvu, tu, rfl, htu⟩ := Paired.getR (hS4.mono (Same.tups s47)) hj1
    refine qT _ _ _ ⟨v0, v3, v5, v8, v9, at_, aj, al, as_, ac, xs, ys, ms, ss, _, _, _, js, _, c2, a0, tri (sgn ns) j0, rfl, s47 _ _ ht4, hTs4.mono (Same.tups s47), s47 _ _ hj4, hJ4.mono (Same.tups s47), s47 _ _ hl4, hM4.mono (Same.tups s47), e7, hC7, s47 _ _ hs4, ⟨tu, hvu, htu⟩, by omega, by omega, fun js' p' => ?_⟩
    have p2' := permC p'
    obtain ⟨tok', jok'⟩ := both MC p2'
    exact ⟨tok', jok', ngo js' p2', cut_gone rw_ hi Sg MS hm p2' hj0⟩
  -- the test
  refine ⟨_, rfl, _, 25, rfl, rfl, ⟨by decide, by decide⟩, _, 2, rfl, rfl, (by show (0 : Int) < 2; decide), rfl, _, rfl, ?_⟩
  rcases way with ⟨hw, h6, q', hq', rfl⟩ | ⟨hw, h8, _, rfl⟩
  · have hv : V.int (c2 / 25 % 2) = V.int 1 := congrArg V.int hw
    rw [decide_eq_true hv]
    refine iteT (iteT ?_)
    rw [List.length_append, joinsRow_len, List.length_singleton] at lS lss
    exact then_ (fun js' p' => round_cut rw_ hi Sg h6 hq' (by omega) p') _
  · have hv : ¬ V.int (c2 / 25 % 2) = V.int 1 := fun z => hw (V.int.inj z)
    rw [decide_eq_false hv]
    refine iteF ?_
    rw [joinsRow_len] at lcs lss
    refine ⟨_, rfl, (a0 : Int), 8, rfl, rfl, _, rfl, ?_⟩
    have last : ¬ (a0 < 8 ∧ m - 1 - a0 < 8) → (tRet (tCall spRefused [] E0 (tCons (tOp rCat (tVar 1) (tVar 6)) (tCons (tOp rCat (tVar 11) (tVar 2)) tNil)))) { nx := fun _ H' => Q .non H', rt := Q }
        [v0, some (.ref at_), some (.ref aj), v3, some (.int c2), v5, some (.ref al), some (.ref as_), v8, v9, some (.int (a0 : Int)), some (.ref ac)] H7 := fun hno => by
      refine ⟨_, rfl, _, rfl, at_, al, xs, ms, rfl, rfl, s47 _ _ ht4, s47 _ _ hl4, by omega, fun p8 n8 => ?_⟩
      have s8 : Same H7 (upd H7 p8 (.lst (xs ++ ms))) := same_upd n8
      have e8 : (upd H7 p8 (.lst (xs ++ ms))) p8 = some (.lst (xs ++ ms)) := upd_same
      generalize upd H7 p8 (.lst (xs ++ ms)) = H8 at s8 e8 ⊢
      refine ⟨_, rfl, _, rfl, ac, aj, _, ys, rfl, rfl, s8 _ _ e7, (s47.trans s8) _ _ hj4, by omega, fun p9 n9 => ?_⟩
      have s9 : Same H8 (upd H8 p9 (.lst (ss.take a0 ++ ss.drop (a0 + 1) ++ ys))) := same_upd n9
      have e9 : (upd H8 p9 (.lst (ss.take a0 ++ ss.drop (a0 + 1) ++ ys))) p9 = some (.lst (ss.take a0 ++ ss.drop (a0 + 1) ++ ys)) := upd_same
      generalize upd H8 p9 (.lst (ss.take a0 ++ ss.drop (a0 + 1) ++ ys)) = H9 at s9 e9 ⊢
      have s79 := s8.trans s9
      have s49 := s47.trans s79
      have pf := permC (js' := (cut (joinsRow 70 m) a0).map (tri (sgn ns)) ++ js) (.refl _)
      obtain ⟨tok', jok'⟩ := both MC pf
      refine ⟨p8, p9, xs ++ ms, _, _, _, rfl, s9 _ _ e8, Paired.app (hTs4.mono (Same.tups s49)) (hM4.mono (Same.tups s49)), e9, Paired.app (hC7.mono (Same.tups s79)) (hJ4.mono (Same.tups s49)), tok', jok', by rw [List.length_append, List.length_map, List.length_map]; have := toldRow_len m c; omega, ?_, line_left hno (by omega) jok'.ndW pf, fun H' _ => q H'⟩
      rw [pf.length_eq, List.length_map, List.length_append, cut_len (by rw [joinsRow_len]; omega), joinsRow_len]
      omega
    by_cases h1 : a0 < 8
    · have h1' : (a0 : Int) < 8 := by omega
      rw [decide_eq_true h1']
      refine iteT ⟨_, rfl, ac, _, rfl, .inl (SqL.of e7), _, rfl, _, _, rfl, rfl, _, 8, rfl, rfl, _, rfl, ?_⟩
      refine ite2 (fun z => ?_) (fun z => ?_)
      · have z2 : (((ss.take a0 ++ ss.drop (a0 + 1)).length : Nat) : Int) - (a0 : Int) < 8 := of_decide_eq_true z
        exact then_ (fun js' p' => line_cut rw_ hi Sg hm h1 (by omega) p') _
      · have z2 : ¬ (((ss.take a0 ++ ss.drop (a0 + 1)).length : Nat) : Int) - (a0 : Int) < 8 := fun y => z (decide_eq_true y)
        exact last (by omega)
    · have h1' : ¬ (a0 : Int) < 8 := by omega
      rw [decide_eq_false h1']
      exact iteF (iteF (last (by omega)))
end
end Bk

namespace Bk
open PySem PySem.Spec PyProof.Rows L2 Bh
/-- the rows' beginnings and lengths, as tuples -/
def T2 (H : Hp) (v : V) (p : Nat × Nat) : Prop := ∃ t, v = .ref t ∧ H t = some (.tup [.int (p.1 : Int), .int (p.2 : Int)])
abbrev Rs (H : Hp) : List V → List (Nat × Nat) → Prop := Paired (T2 H)
theorem Rs.mono {H H' : Hp} (s : Tups H H') {xs : List V} {js : List (Nat × Nat)} (h : Rs H xs js) : Rs H' xs js := L2.Paired.mapP h fun _ _ ⟨t, e, q⟩ => ⟨t, e, s t _ q⟩
theorem cut37_len (xs : List V) : (cutV xs (some 3) (some 7)).length ≤ 4 := by
  unfold cutV
  rw [show HT.sIx xs.length 0 (some 3) = min 3 xs.length from HT.sIx_nat xs.length 0 3, show HT.sIx xs.length xs.length (some 7) = min 7 xs.length from HT.sIx_nat xs.length xs.length 7, List.length_take]
  omega
theorem cut37_int {ns : List Int} {i : Nat} {x : V} (h : (cutV (ns.map V.int) (some 3) (some 7))[i]? = some x) : ∃ z, x = V.int z := by
  unfold cutV at h
  have h1 := List.mem_of_getElem? h
  have h2 := List.mem_of_mem_drop (List.mem_of_mem_take h1)
  obtain ⟨z, _, e⟩ := List.mem_map.mp h2
  exact ⟨z, e.symm⟩
def spLaw (K : PySem.W.Frag) : Sp := fun vs H Q _ => ∃ (a : Addr) (ns : List Int), vs = [.ref a] ∧ SqL K H a (ns.map V.int) ∧ ns.length ≤ 63 ∧ ∀ H', Q (.bl true) H'
section
variable {P : Program} {w : World} {K : PySem.W.Frag} {mg : Str → Option Value} {base : Heap} {C CH CN fI fS fC fP fR fK fT fF fO : Addr} {fdI fdS fdC fdP fdR fdK fdT fdF fdO : FuncData}
theorem ok_law (T : Txt K mg C CH CN) (Z : Fs P w K mg base C CH CN fI fS fC fP fR fK fT fF fO fdI fdS fdC fdP fdR fdK fdT fdF fdO) {f : Addr} {fd : FuncData} (F : Fun K "law" "law" sLaw f fd) : FnOk P w K mg base CX0 6 f fd ["_law_script"] (spLaw K) := by
  refine F.ok scLw (fun vs H Q E h => ?_) (fun cdv A outer s H vs Q E hr h => ?_)
  · obtain ⟨a, ns, rfl, _⟩ := h
    rfl
  · obtain ⟨a, ns, rfl, hS, hlen, q⟩ := h
    have hr1 : Room 1 (A.deeper (envOfC "law" (defScope sLaw) s.heap.objs.size f cdv)) := hr.mono (by decide)
    have hr2 : Room 2 (A.deeper (envOfC "law" (defScope sLaw) s.heap.objs.size f cdv)) := hr.mono (by decide)
    have hr3 : Room 3 (A.deeper (envOfC "law" (defScope sLaw) s.heap.objs.size f cdv)) := hr.mono (by decide)
    have hr4 : Room 4 (A.deeper (envOfC "law" (defScope sLaw) s.heap.objs.size f cdv)) := hr.mono (by decide)
    obtain ⟨tR, hR, qR⟩ := rest_ok (H0 := H) (E := E) (outer := outer) (ns := ns) T Z hr q
    refine ⟨_, pss_cons (ps_set (i := 1) scLw.nd rfl (.inl rfl) (pe_lst (pa_cons (pe_tup (pa_cons (pe_call Z.GS hr2 (by rfl) Z.gS Z.kS Z.bS .nil pass0 (pa_cons (pv 0) (pa_cons pe_int pa_nil))) (pa_cons pe_str (pa_cons pe_int pa_nil))))
        (pa_cons (pe_tup (pa_cons (pe_call Z.GS hr2 (by rfl) Z.gS Z.kS Z.bS .nil pass0 (pa_cons (pv 0) (pa_cons pe_int pa_nil))) (pa_cons pe_str (pa_cons (pe_op op_add pe_int (pe_op op_mod (pe_call Z.GC hr1 (by rfl) Z.gC Z.kC Z.bC .nil pass0 (pa_cons (pv 0) (pa_cons pe_int pa_nil))) pe_int)) pa_nil)))) pa_nil))))
      (pss_cons (ps_set (i := 2) scLw.nd rfl (.inl rfl) (pe_lst pa_nil))
      (pss_cons (ps_set (i := 3) scLw.nd rfl (.inl rfl) (pe_lst pa_nil))
      (pss_cons (ps_for PassesOwn.never rfl (pi_list (pe_slice sl_list (pv 0) (po_some pe_int) (po_some pe_int))) (pg_name (i := 4) scLw.nd rfl (.inl rfl))
        (pss_cons (ps_set (i := 4) scLw.nd rfl (.inl rfl) (pe_op op_mod (pv 4) (pe_op op_pow pe_int pe_int)))
        (pss_cons (ps_set (i := 5) scLw.nd rfl (.inl rfl) (pe_op op_add pe_int (pe_op op_mul pe_int (pe_callB call_len_seq (by rfl) T.mlen PySem.boot_len (pa_cons (pv 3) pa_nil)))))
        (pss_cons (ps_asg (pe_call Z.GR hr3 (by rfl) Z.gR Z.kR Z.bR .nil pass0 (pa_cons (pv 0) (pa_cons (pv 5) (pa_cons (pe_op op_mod (pv 4) pe_int) (pa_cons (pe_call Z.GK hr1 (by rfl) Z.gK Z.kK Z.bK .nil pass0 (pa_cons (pe_op op_fdiv (pv 4) pe_int) pa_nil)) pa_nil)))))
          (pg_tup rfl (pgs_cons (pg_name (i := 6) scLw.nd rfl (.inl rfl)) (pgs_cons (pg_name (i := 7) scLw.nd rfl (.inl rfl)) pgs_nil))))
        (pss_cons (ps_set (i := 1) scLw.nd rfl (.inl rfl) (pe_op op_cat (pv 1) (pv 6)))
        (pss_cons (ps_set (i := 2) scLw.nd rfl (.inl rfl) (pe_op op_cat (pv 2) (pv 7)))
        (pss_one (ps_expr (pe_bm PySem.F.plainAttrs_list PySem.F.slot_list_append PySem.F.type_list_append mt_append (pv 3) (pa_cons (pe_tup (pa_cons (pv 5) (pa_cons (pe_op op_mod (pv 4) pe_int) pa_nil))) pa_nil))))))))))
      (pss_cons (ps_set (i := 4) scLw.nd rfl (.inl rfl) (pe_call Z.GC hr1 (by rfl) Z.gC Z.kC Z.bC .nil pass0 (pa_cons (pv 0) (pa_cons pe_int pa_nil))))
      (pss_cons (ps_set (i := 2) scLw.nd rfl (.inl rfl) (pe_call Z.GT hr1 (by rfl) Z.gT Z.kT Z.bT .nil pass0 (pa_cons (pv 2) (pa_cons (pv 4) pa_nil))))
      (pss_cons (ps_set (i := 8) scLw.nd rfl (.inl rfl) (pe_make Z.M Z.GI hr4 (by rfl) T.gC Z.bI .nil passL (pa_cons (pv 1) (pa_cons (pe_lst pa_nil) (pa_cons (pv 2) pa_nil)))))
      (pss_cons (ps_for PassesOwn.never rfl (pi_list (pv 3)) (pg_tup rfl (pgs_cons (pg_name (i := 5) scLw.nd rfl (.inl rfl)) (pgs_cons (pg_name (i := 9) scLw.nd rfl (.inl rfl)) pgs_nil)))
        (pss_one (ps_if (pt_not (pt_val (pe_call Z.GO hr3 (by rfl) Z.gO Z.kO Z.bO .nil pass0 (pa_cons (pv 8) (pa_cons (pv 0) (pa_cons (pv 5) (pa_cons (pv 9) pa_nil))))))) (pss_one (ps_ret pe_bl)) pss_nil)))
      (pss_cons (ps_set (i := 9) scLw.nd rfl (.inl rfl) (pe_op op_add pe_int (pe_op op_mod (pv 4) pe_int)))
      (pss_cons (ps_asg (pe_call Z.GR hr3 (by rfl) Z.gR Z.kR Z.bR .nil pass0 (pa_cons (pv 0) (pa_cons pe_int (pa_cons (pv 9) (pa_cons (pe_call Z.GK hr1 (by rfl) Z.gK Z.kK Z.bK .nil pass0 (pa_cons (pe_op op_fdiv (pv 4) pe_int) pa_nil)) pa_nil)))))
          (pg_tup rfl (pgs_cons (pg_name (i := 6) scLw.nd rfl (.inl rfl)) (pgs_cons (pg_name (i := 7) scLw.nd rfl (.inl rfl)) pgs_nil))))
      (pss_cons (ps_if (pt_cmpR op_eq (pe_op op_mod (pe_op op_fdiv (pv 4) pe_int) pe_int) pe_int (nomark _))
        (pss_cons (ps_set (i := 9) scLw.nd rfl (.inl rfl) (pe_op op_mod (pv 4) pe_int))
        (pss_cons (ps_asg (pe_call Z.GR hr3 (by rfl) Z.gR Z.kR Z.bR .nil pass0 (pa_cons (pv 0) (pa_cons pe_int (pa_cons (pv 9) (pa_cons (pe_call Z.GK hr1 (by rfl) Z.gK Z.kK Z.bK .nil pass0 (pa_cons (pe_op op_fdiv (pv 4) pe_int) pa_nil)) pa_nil)))))
          (pg_tup rfl (pgs_cons (pg_name (i := 6) scLw.nd rfl (.inl rfl)) (pgs_cons (pg_name (i := 7) scLw.nd rfl (.inl rfl)) pgs_nil))))
        (pss_one (ps_expr (pe_bm PySem.F.plainAttrs_list PySem.F.slot_list_append PySem.F.type_list_append mt_append (pv 7) (pa_cons (pe_tup (pa_cons (pe_call Z.GS hr2 (by rfl) Z.gS Z.kS Z.bS .nil pass0 (pa_cons (pv 0) (pa_cons pe_int pa_nil)))
          (pa_cons (pe_call Z.GS hr2 (by rfl) Z.gS Z.kS Z.bS .nil pass0 (pa_cons (pv 0) (pa_cons (pe_op op_add pe_int (pv 9)) pa_nil)))
          (pa_cons (pe_call Z.GS hr2 (by rfl) Z.gS Z.kS Z.bS .nil pass0 (pa_cons (pv 0) (pa_cons (pe_op op_mod (pe_op op_fdiv (pv 4) pe_int) pe_int) pa_nil))) pa_nil)))) pa_nil)))))) pss_nil)
      hR)))))))))), ?_⟩
    have Sg := sgn_sig ns
    have big : (1000 : Nat) ≤ sizeLine := by decide
    -- _law_told
    refine ⟨_, rfl, a, ns, 0, rfl, hS, by decide, (by show 3 ≤ sizeLine; decide), fun t0 nt0 => ?_⟩
    have s1 : Same H (upd H t0 (.tup [.int (sgn ns (Int.toNat 0)), .str "mark", .int 1])) := same_upd nt0
    have e1 : (upd H t0 (.tup [.int (sgn ns (Int.toNat 0)), .str "mark", .int 1])) t0 = some (.tup [.int (sgn ns 0), .str "mark", .int 1]) := upd_same
    generalize upd H t0 (.tup [.int (sgn ns (Int.toNat 0)), .str "mark", .int 1]) = H1 at s1 e1 ⊢
    refine ⟨_, rfl, a, ns, 1, rfl, s1.seq hS, by decide, _, rfl, a, ns, 2, rfl, s1.seq hS, by decide, _, 2, rfl, rfl, (by show (0 : Int) < 2; decide), 1, _, rfl, rfl, (by show 3 ≤ sizeLine; decide), fun t1 nt1 => ?_⟩
    have s2 : Same H1 (upd H1 t1 (.tup [.int (sgn ns (Int.toNat 1)), .str "mark", .int (1 + cellAt ns (Int.toNat 2) % 2)])) := same_upd nt1
    have e2 : (upd H1 t1 (.tup [.int (sgn ns (Int.toNat 1)), .str "mark", .int (1 + cellAt ns (Int.toNat 2) % 2)])) t1 = some (.tup [.int (sgn ns 1), .str "mark", .int (1 + cellAt ns 2 % 2)]) := upd_same
    generalize upd H1 t1 (.tup [.int (sgn ns (Int.toNat 1)), .str "mark", .int (1 + cellAt ns (Int.toNat 2) % 2)]) = H2 at s2 e2 ⊢
    refine ⟨(by show 2 ≤ sizeLine; decide), fun l1 nl1 => ?_⟩
    have s3 : Same H2 (upd H2 l1 (.lst [.ref t0, .ref t1])) := same_upd nl1
    have e3 : (upd H2 l1 (.lst [.ref t0, .ref t1])) l1 = some (.lst [.ref t0, .ref t1]) := upd_same
    generalize upd H2 l1 (.lst [.ref t0, .ref t1]) = H3 at s3 e3 ⊢
    refine ⟨Nat.zero_le _, fun l2 nl2 => ?_⟩
    have s4 : Same H3 (upd H3 l2 (.lst [])) := same_upd nl2
    have e4 : (upd H3 l2 (.lst [])) l2 = some (.lst []) := upd_same
    generalize upd H3 l2 (.lst []) = H4 at s4 e4 ⊢
    refine ⟨Nat.zero_le _, fun l3 nl3 => ?_⟩
    have s5 : Same H4 (upd H4 l3 (.lst [])) := same_upd nl3
    have e5 : (upd H4 l3 (.lst [])) l3 = some (.lst []) := upd_same
    have n13 : l1 ≠ l3 := ne_of_none (s4 _ _ e3) nl3
    have n23 : l2 ≠ l3 := ne_of_none e4 nl3
    have s04 : Same H H4 := ((s1.trans s2).trans s3).trans s4
    have f3 : H l3 = none := s04.free nl3
    generalize upd H4 l3 (.lst []) = H5 at s5 e5 ⊢
    have s05 : Same H H5 := s04.trans s5
    have c2p : 0 ≤ cellAt ns 2 := cellAt_pos ns 2
    have c2m : 0 ≤ cellAt ns 2 % 2 := Int.emod_nonneg _ (by decide)
    have T0 : Ts H5 [.ref t0, .ref t1] (([((0 : Nat), DK.mark, (1 : Int)), (1, DK.mark, 1 + cellAt ns 2 % 2)] : List (Nat × Str × Int)).map (tl (sgn ns))) :=
      .cons ⟨t0, rfl, s5 _ _ (s4 _ _ (s3 _ _ (s2 _ _ e1)))⟩ (.cons ⟨t1, rfl, s5 _ _ (s4 _ _ (s3 _ _ e2))⟩ .nil)
    -- for _law_cell in _law_script[3:7]
    refine ⟨_, rfl, 3, rfl, 7, rfl, a, ns.map V.int, rfl, s05.seq hS, fun sl nsl => ?_⟩
    have s6 : Same H5 (upd H5 sl (.lst (cutV (ns.map V.int) (some 3) (some 7)))) := same_upd nsl
    have e6 : (upd H5 sl (.lst (cutV (ns.map V.int) (some 3) (some 7)))) sl = some (.lst (cutV (ns.map V.int) (some 3) (some 7))) := upd_same
    have nsl3 : sl ≠ l3 := fun z => by rw [z, e5] at nsl; cases nsl
    generalize upd H5 sl (.lst (cutV (ns.map V.int) (some 3) (some 7))) = H6 at s6 e6 ⊢
    have s06 := s05.trans s6
    have bse : ∀ {H' : Hp}, Kept l3 H6 H' → Same H H' := fun k b o e => k b o (s06 _ _ e) (ne_of_none e f3)
    refine ⟨sl, rfl, ⟨_, SqL.of e6⟩, for_list (K := K) (a := sl) (xs := cutV (ns.map V.int) (some 3) (some 7)) (fun i σ H' => ∃ (at_ aj : Addr) (v4 v5 v6 v7 : Option V) (xs ys zs : List V) (T : List (Nat × Str × Int)) (J : List ITri) (R : List (Nat × Nat)),
        σ = [some (.ref a), some (.ref at_), some (.ref aj), some (.ref l3), v4, v5, v6, v7, none, none, none, none] ∧ Kept l3 H6 H' ∧ H' at_ = some (.lst xs) ∧ Ts H' xs (T.map (tl (sgn ns))) ∧ H' aj = some (.lst ys) ∧ Js H' ys (J.map (tri (sgn ns))) ∧
        H' l3 = some (.lst zs) ∧ Rs H' zs R ∧ Rows DK i T J R ∧ R.length = i ∧ at_ ≠ l3 ∧ aj ≠ l3 ∧ T.length ≤ 2 + 8 * i ∧ J.length ≤ 8 * i)
      ⟨l1, l2, none, none, none, none, _, [], [], _, [], [], rfl, fun b o e _ => e, s6 _ _ (s5 _ _ (s4 _ _ e3)), T0.mono (Same.tups s6), s6 _ _ (s5 _ _ e4), .nil, s6 _ _ e5, .nil, Rows.start DK (by omega), rfl, n13, n23, Nat.le_refl _, Nat.le_refl _⟩
      (fun i σ H' _ ⟨_, _, _, _, _, _, _, _, _, _, _, _, _, kp, _⟩ => SqL.of (kp _ _ e6 nsl3)) ?_ ?_⟩
    · rintro i x σ H' hi ⟨at_, aj, v4, v5, v6, v7, xs, ys, zs, T', J, R, rfl, kp, hat, hT, haj, hJ, h3, hR', rw_, lR, na, nj, lT, lJ⟩
      obtain ⟨z, rfl⟩ := cut37_int hi
      have i4 : i < 4 := Nat.lt_of_lt_of_le (List.getElem?_eq_some_iff.mp hi).1 (cut37_len _)
      have lz : zs.length = i := by rw [Paired.length hR', lR]
      have lx : xs.length = T'.length := by rw [Paired.length hT, List.length_map]
      have ly : ys.length = J.length := by rw [Paired.length hJ, List.length_map]
      have sb := bse kp
      have hS' := sb.seq hS
      -- _law_cell = _law_cell % 10 ** 62
      refine ⟨_, rfl, 10, 62, rfl, rfl, ⟨by decide, by decide, by decide⟩, _, _, rfl, rfl, (by show (0 : Int) < 10 ^ (62 : Int).toNat; decide), ?_⟩
      show gName 4 (V.int (z % 10 ^ (62 : Int).toNat)) _ _ _
      generalize z % 10 ^ (62 : Int).toNat = cz
      -- _law_first = 2 + 8 * len(_law_rows)
      refine ⟨_, rfl, l3, zs, rfl, .inl (SqL.of h3), 8, _, rfl, rfl, .inl ⟨by decide, by decide⟩, 2, _, rfl, rfl, ?_⟩
      have e5' : (2 : Int) + 8 * ((zs.length : Nat) : Int) = ((2 + 8 * i : Nat) : Int) := by omega
      show gName 5 (V.int (2 + 8 * ((zs.length : Nat) : Int))) _ _ _
      rw [e5']
      -- _law_more, _law_some = _law_row(..)
      have em : cz % 8 = (((cz % 8).toNat : Nat) : Int) := by omega
      have m7 : (cz % 8).toNat ≤ 7 := by omega
      refine ⟨_, rfl, _, rfl, _, rfl, _, 8, rfl, rfl, (by show (0 : Int) < 8; decide), _, rfl, _, 8, rfl, rfl, ⟨by decide, by decide⟩, _, rfl, fun H7 s7 => ?_⟩
      refine ⟨a, ns, 2 + 8 * i, (cz % 8).toNat, kindAt (cz / 8), ?_, s7.seq hS', by omega, fun H8 t k1 k2 ms ss s8 n1 n2 n12 et ek1 hM ek2 hSs => ?_⟩
      · show [V.ref a, V.int ((2 + 8 * i : Nat) : Int), V.int (cz % 8), V.str (kindAt (cz / 8))] = _
        rw [← em]
      refine ⟨t, _, rfl, SqT.of et, rfl, _, _, rfl, _, _, rfl, rfl, ?_⟩
      have s78 := s7.trans s8
      have lm : ms.length ≤ 8 := by
        rw [Paired.length hM, List.length_map]
        unfold toldRow
        by_cases hc : kindAt (cz / 8) = DK.plain
        · rw [if_pos hc]; exact Nat.zero_le _
        · rw [if_neg hc, List.length_map, List.length_range]; omega
      have ls : ss.length ≤ 7 := by
        rw [Paired.length hSs, List.length_map, joinsRow_len]
        exact m7
      -- _law_told = _law_told + _law_more
      refine ⟨_, rfl, _, rfl, at_, k1, xs, ms, rfl, rfl, s78 _ _ hat, ek1, by omega, fun p1 np1 => ?_⟩
      have s9 : Same H8 (upd H8 p1 (.lst (xs ++ ms))) := same_upd np1
      have e9 : (upd H8 p1 (.lst (xs ++ ms))) p1 = some (.lst (xs ++ ms)) := upd_same
      generalize upd H8 p1 (.lst (xs ++ ms)) = H9 at s9 e9 ⊢
      have s79 := s78.trans s9
      -- _law_joins = _law_joins + _law_some
      refine ⟨_, rfl, _, rfl, aj, k2, ys, ss, rfl, rfl, s79 _ _ haj, s9 _ _ ek2, by omega, fun p2 np2 => ?_⟩
      have s10 : Same H9 (upd H9 p2 (.lst (ys ++ ss))) := same_upd np2
      have e10 : (upd H9 p2 (.lst (ys ++ ss))) p2 = some (.lst (ys ++ ss)) := upd_same
      generalize upd H9 p2 (.lst (ys ++ ss)) = H10 at s10 e10 ⊢
      have s710 := s79.trans s10
      have h3' := s710 _ _ h3
      have np1' : p1 ≠ l3 := fun y => by rw [y, s78 _ _ h3] at np1; cases np1
      have np2' : p2 ≠ l3 := fun y => by rw [y, s79 _ _ h3] at np2; cases np2
      -- _law_rows.append((_law_first, _law_cell % 8))
      refine ⟨_, rfl, .inl ⟨rfl, _, SqL.of h3'⟩, _, rfl, _, rfl, _, 8, rfl, rfl, (by show (0 : Int) < 8; decide), (by show 2 ≤ sizeLine; decide), fun pt npt => ?_⟩
      have s11 : Same H10 (upd H10 pt (.tup [.int ((2 + 8 * i : Nat) : Int), .int (cz % 8)])) := same_upd npt
      have e11 : (upd H10 pt (.tup [.int ((2 + 8 * i : Nat) : Int), .int (cz % 8)])) pt = some (.tup [.int ((2 + 8 * i : Nat) : Int), .int (((cz % 8).toNat : Nat) : Int)]) := by rw [← em]; exact upd_same
      generalize (upd H10 pt (.tup [.int ((2 + 8 * i : Nat) : Int), .int (cz % 8)])) = H11 at s11 e11 ⊢
      have s711 := s710.trans s11
      have h311 := s711 _ _ h3
      have tu : Tups H11 (upd H11 l3 (.lst (zs ++ [.ref pt]))) := Tups.upd fun xs y => by rw [h311] at y; cases y
      have t811 : Tups H8 (upd H11 l3 (.lst (zs ++ [.ref pt]))) := (Same.tups ((s9.trans s10).trans s11)).trans tu
      have t711 : Tups H' (upd H11 l3 (.lst (zs ++ [.ref pt]))) := (Same.tups s711).trans tu
      refine ⟨l3, zs, _, rfl, rfl, h311, small1000 (by omega), ?_⟩
      refine ⟨p1, p2, _, _, _, _, xs ++ ms, ys ++ ss, zs ++ [.ref pt], T' ++ toldRow DK (2 + 8 * i) (cz % 8).toNat (kindAt (cz / 8)), J ++ joinsRow (2 + 8 * i) (cz % 8).toNat, R ++ [(2 + 8 * i, (cz % 8).toNat)], rfl,
        fun b o e nb => ?_, ?_, ?_, ?_, ?_, upd_same, ?_, rw_.step m7 (kindAt_mem _), ?_, np1', np2', ?_, ?_⟩
      · rw [upd_ne nb]
        exact s711 _ _ (kp _ _ e nb)
      · rw [upd_ne np1']
        exact s11 _ _ (s10 _ _ e9)
      · rw [List.map_append]
        exact Paired.app (hT.mono t711) (hM.mono t811)
      · rw [upd_ne np2']
        exact s11 _ _ e10
      · rw [List.map_append]
        exact Paired.app (hJ.mono t711) (hSs.mono t811)
      · exact Paired.snoc (hR'.mono t711) ⟨pt, rfl, tu _ _ e11⟩
      · rw [List.length_append, lR]
        rfl
      · rw [List.length_append]
        have : (toldRow DK (2 + 8 * i) (cz % 8).toNat (kindAt (cz / 8))).length = ms.length := by rw [Paired.length hM, List.length_map]
        omega
      · rw [List.length_append, joinsRow_len]
        omega
    · rintro σ H7 ⟨at_, aj, v4, v5, v6, v7, xs, ys, zs, T', J, R, rfl, kp, hat, hT, haj, hJ, h3, hR', rw_, lR, na, nj, lT, lJ⟩
      have i4 := cut37_len (ns.map V.int)
      generalize (cutV (ns.map V.int) (some 3) (some 7)).length = i at rw_ lR lT lJ i4
      have lx : xs.length = T'.length := by rw [Paired.length hT, List.length_map]
      have ly : ys.length = J.length := by rw [Paired.length hJ, List.length_map]
      have sb := bse kp
      -- _law_cell = _law_cell_at(_law_script, 2); _law_joins = _law_turned(..)
      refine ⟨_, rfl, a, ns, 2, rfl, sb.seq hS, by decide, ?_⟩
      show gName 4 (V.int (cellAt ns 2)) _ _ _
      refine ⟨_, rfl, _, rfl, aj, ys, _, rfl, SqL.of haj, by omega, fun H8 al' ws s8 nl el pm => ?_⟩
      obtain ⟨js, hJs, pj⟩ := Paired.perm pm (hJ.mono (Same.tups s8))
      have jok : JOk DK (T'.map (tl (sgn ns))) js := (rw_.ok.jok Sg (by omega)).perm pj
      have tok := rw_.ok.tok Sg (by omega)
      have ngo := rw_.noGo i4 Sg pj
      have ljs : js.length = J.length := by rw [pj.length_eq, List.length_map]
      -- _law_book = Book(_law_told, [], _law_joins)
      refine ⟨_, rfl, Nat.zero_le _, fun pm' nm => ⟨_, rfl, fun x dx nx ndx nex => ?_⟩⟩
      have s9 : Same H8 (upd H8 pm' (.lst [])) := same_upd nm
      have e9 : (upd H8 pm' (.lst [])) pm' = some (.lst []) := upd_same
      generalize upd H8 pm' (.lst []) = H9 at s9 e9 nx ndx ⊢
      have s10 := made_up (C := C) nx ndx
      have s810 := s9.trans s10
      have s710 := s8.trans s810
      refine ⟨x, dx, at_, pm', al', xs, ws, _, js, rfl, upd_same, s710 _ _ hat, hT.mono (Same.tups s710), s10 _ _ e9, s810 _ _ el, Js.mono (Same.tups s810) hJs, tok, jok, by rw [List.length_map]; omega, by omega, fun y => ?_, fun _ H11 a' b' c' d' kk hk B k11 => ⟨rfl, ?_⟩⟩
      · obtain ⟨wh, hw, hg⟩ := y
        exact absurd hg (ngo wh hw)
      have s911 := made_same nx ndx k11
      have s711 := s8.trans (s9.trans s911)
      have sb11 := sb.trans s711
      -- for _law_first, _law_many in _law_rows
      refine ⟨_, rfl, l3, rfl, ⟨_, SqL.of (s711 _ _ h3)⟩, for_list (K := K) (a := l3) (xs := zs) (fun j σ H' => H' = H11 ∧ ∃ v5 v9 : Option V, σ = [some (.ref a), some (.ref at_), some (.ref al'), some (.ref l3), some (.int (cellAt ns 2)), v5, v6, v7, some (.ref x), v9, none, none])
        ⟨rfl, _, _, rfl⟩ (fun j σ H' _ ⟨y, _⟩ => by rw [y]; exact SqL.of (s711 _ _ h3)) ?_ ?_⟩
      · rintro j y σ H' hj ⟨rfl, v5', v9', rfl⟩
        obtain ⟨⟨ff, mm⟩, hpm, tt, rfl, htt⟩ := Paired.getL hR' hj
        have pmem : (ff, mm) ∈ R := List.mem_iff_getElem?.mpr ⟨j, hpm⟩
        obtain ⟨g1, g2⟩ := rw_.goes i4 Sg pj pmem
        have bnd : ff + mm < 2 + 8 * i := (rw_.rr _ pmem).1
        refine ⟨tt, _, rfl, SqT.of (s711 _ _ htt), rfl, _, _, rfl, _, _, rfl, rfl, ?_⟩
        refine ⟨_, rfl, _, rfl, _, rfl, _, rfl, x, dx, a', b', c', d', a, hk, js, ns, ff, mm, rfl, B.ob, B.hb, B.hv, sb11.seq hS, by omega, g1, g2, true, rfl, ?_⟩
        exact iteF ⟨rfl, _, _, rfl⟩
      · rintro σ H' ⟨rfl, v5', v9', rfl⟩
        have s811 := s9.trans s911
        have hat11 := s711 _ _ hat
        have hT11 := hT.mono (Same.tups s711)
        have hal11 := s811 _ _ el
        have hJ11 : Js H' ws js := Js.mono (Same.tups s811) hJs
        have hS11 := sb11.seq hS
        -- _law_many = 8 + _law_cell % 5; _law_more, _law_some = _law_row(..)
        have m5 : 0 ≤ cellAt ns 2 % 5 := Int.emod_nonneg _ (by decide)
        have m5' : cellAt ns 2 % 5 < 5 := Int.emod_lt_of_pos _ (by decide)
        have em : 8 + cellAt ns 2 % 5 = (((8 + cellAt ns 2 % 5).toNat : Nat) : Int) := by omega
        refine ⟨_, rfl, _, 5, rfl, rfl, (by show (0 : Int) < 5; decide), 8, _, rfl, rfl, ?_⟩
        refine ⟨_, rfl, _, rfl, _, rfl, _, 5, rfl, rfl, ⟨by decide, by decide⟩, _, rfl, fun H12 s12 => ?_⟩
        refine ⟨a, ns, 70, (8 + cellAt ns 2 % 5).toNat, kindAt (cellAt ns 2 / 5), ?_, s12.seq hS11, by omega, fun H13 t k1 k2 ms ss s13 n1 n2 n12 et ek1 hM ek2 hSs => ?_⟩
        · show [V.ref a, V.int 70, V.int (8 + cellAt ns 2 % 5), V.str (kindAt (cellAt ns 2 / 5))] = _
          rw [← em]
          rfl
        refine ⟨t, _, rfl, SqT.of et, rfl, _, _, rfl, _, _, rfl, rfl, ?_⟩
        have s1113 := s12.trans s13
        -- if _law_cell // 25 % 2 == 1
        refine ⟨_, rfl, _, 25, rfl, rfl, ⟨by decide, by decide⟩, _, 2, rfl, rfl, (by show (0 : Int) < 2; decide), rfl, _, rfl, ?_⟩
        by_cases hw : cellAt ns 2 / 25 % 2 = 1
        · have hv : V.int (cellAt ns 2 / 25 % 2) = V.int 1 := congrArg V.int hw
          rw [decide_eq_true hv]
          refine iteT ?_
          have m7 : 0 ≤ cellAt ns 2 % 7 := Int.emod_nonneg _ (by decide)
          have m7' : cellAt ns 2 % 7 < 7 := Int.emod_lt_of_pos _ (by decide)
          have em7 : cellAt ns 2 % 7 = (((cellAt ns 2 % 7).toNat : Nat) : Int) := by omega
          have q0 : 0 ≤ cellAt ns 2 / 50 % 2 := Int.emod_nonneg _ (by decide)
          have q1 : cellAt ns 2 / 50 % 2 < 2 := Int.emod_lt_of_pos _ (by decide)
          refine ⟨_, rfl, _, 7, rfl, rfl, (by show (0 : Int) < 7; decide), ?_⟩
          refine ⟨_, rfl, _, rfl, _, rfl, _, 5, rfl, rfl, ⟨by decide, by decide⟩, _, rfl, fun H14 s14 => ?_⟩
          have s1114 := s1113.trans s14
          refine ⟨a, ns, 70, (cellAt ns 2 % 7).toNat, kindAt (cellAt ns 2 / 5), ?_, s1114.seq hS11, by omega, fun H15 t' k1' k2' ms' ss' s15 n1' n2' n12' et' ek1' hM' ek2' hSs' => ?_⟩
          · show [V.ref a, V.int 70, V.int (cellAt ns 2 % 7), V.str (kindAt (cellAt ns 2 / 5))] = _
            rw [← em7]
            rfl
          refine ⟨t', _, rfl, SqT.of et', rfl, _, _, rfl, _, _, rfl, rfl, ?_⟩
          have s1115 := s1114.trans s15
          have hS15 := s1115.seq hS11
          have e70 : ((70 : Int) + cellAt ns 2 % 7).toNat = 70 + (cellAt ns 2 % 7).toNat := by omega
          refine ⟨_, rfl, .inl ⟨rfl, _, SqL.of ek2'⟩, ?_⟩
          refine ⟨_, rfl, a, ns, 70, rfl, hS15, by decide, _, rfl, _, rfl, 70, _, rfl, rfl, a, ns, 70 + cellAt ns 2 % 7, rfl, hS15, by omega, ?_⟩
          rw [e70]
          refine ⟨_, rfl, _, rfl, _, 50, rfl, rfl, ⟨by decide, by decide⟩, _, 2, rfl, rfl, (by show (0 : Int) < 2; decide), a, ns, cellAt ns 2 / 50 % 2, rfl, hS15, q0, (by show 3 ≤ sizeLine; decide), fun pt npt => ?_⟩
          have s16 : Same H15 (upd H15 pt (.tup [.int (sgn ns (Int.toNat 70)), .int (sgn ns (70 + (cellAt ns 2 % 7).toNat)), .int (sgn ns (cellAt ns 2 / 50 % 2).toNat)])) := same_upd npt
          have e16 : (upd H15 pt (.tup [.int (sgn ns (Int.toNat 70)), .int (sgn ns (70 + (cellAt ns 2 % 7).toNat)), .int (sgn ns (cellAt ns 2 / 50 % 2).toNat)])) pt = some (.tup [.int (sgn ns 70), .int (sgn ns (70 + (cellAt ns 2 % 7).toNat)), .int (sgn ns (cellAt ns 2 / 50 % 2).toNat)]) := upd_same
          generalize (upd H15 pt (.tup [.int (sgn ns (Int.toNat 70)), .int (sgn ns (70 + (cellAt ns 2 % 7).toNat)), .int (sgn ns (cellAt ns 2 / 50 % 2).toNat)])) = H16 at s16 e16 ⊢
          have ek16 := s16 _ _ ek2'
          have ls : ss'.length ≤ 7 := by
            rw [Paired.length hSs', List.length_map, joinsRow_len]
            omega
          refine ⟨k2', ss', _, rfl, rfl, ek16, small1000 (by omega), ?_⟩
          have tu : Tups H16 (upd H16 k2' (.lst (ss' ++ [.ref pt]))) := Tups.upd fun xs y => by rw [ek16] at y; cases y
          have t1516 : Tups H15 (upd H16 k2' (.lst (ss' ++ [.ref pt]))) := (Same.tups s16).trans tu
          have t1116 : Tups H' (upd H16 k2' (.lst (ss' ++ [.ref pt]))) := (Same.tups s1115).trans t1516
          have old : ∀ {b : Addr} {o : HO}, H' b = some o → (upd H16 k2' (.lst (ss' ++ [.ref pt]))) b = some o := fun {b o} y => by
            rw [upd_ne (ne_of_none (s1114 _ _ y) n2')]
            exact s16 _ _ (s15 _ _ (s1114 _ _ y))
          refine qR _ _ ⟨_, _, _, _, _, at_, al', k1', k2', xs, ws, ms', ss' ++ [.ref pt], i, (cellAt ns 2 % 7).toNat, kindAt (cellAt ns 2 / 5), T', J, joinsRow 70 (cellAt ns 2 % 7).toNat ++ [(70, 70 + (cellAt ns 2 % 7).toNat, (cellAt ns 2 / 50 % 2).toNat)], R, js, cellAt ns 2, rfl,
            old hat11, Ts.mono t1116 hT11, old hal11, Js.mono t1116 hJ11, pj, rw_, i4, by omega, by omega, kindAt_mem _, ?_, Ts.mono t1516 hM', upd_same, ?_, .inl ⟨hw, by omega, _, by omega, rfl⟩⟩
          · rw [upd_ne n12']
            exact s16 _ _ ek1'
          · rw [List.map_append]
            exact Paired.snoc (Js.mono t1516 hSs') ⟨pt, rfl, tu _ _ e16⟩
        · have hv : ¬ V.int (cellAt ns 2 / 25 % 2) = V.int 1 := fun y => hw (V.int.inj y)
          rw [decide_eq_false hv]
          refine iteF ?_
          exact qR _ _ ⟨_, _, _, _, _, at_, al', k1, k2, xs, ws, ms, ss, i, (8 + cellAt ns 2 % 5).toNat, kindAt (cellAt ns 2 / 5), T', J, joinsRow 70 (8 + cellAt ns 2 % 5).toNat, R, js, cellAt ns 2, rfl,
            s1113 _ _ hat11, Ts.mono (Same.tups s1113) hT11, s1113 _ _ hal11, Js.mono (Same.tups s1113) hJ11, pj, rw_, i4, by omega, by omega, kindAt_mem _, ek1, hM, ek2, hSs, .inr ⟨hw, by omega, by omega, rfl⟩⟩
end
end Bk

namespace Bk
open PySem PySem.Spec PyProof.Rows L2 Bh

theorem all_mk {l : PySem.W.OpenLaw} {w : World} {K : PySem.W.Frag} {h : Heap} {mg : Str → Option Value} {fa C CH CN aTd aJd f1 f2 f3 f4 f5 f6 f7 f8 f9 f10 f11 f12 f13 f14 f15 : Addr} (X : K.In h) (G : h.Ns mainGlobals mg) (hfa : mg "law" = some (.ref fa))
    {od1 an1 od2 an2 od3 an3 od4 an4 od5 an5 od6 an6 od7 an7 od8 an8 od9 an9 od10 an10 od11 an11 od12 an12 od13 an13 od14 an14 od15 an15 dT dJ : Option Addr} {sl1 sl2 sl3 sl4 sl5 sl6 sl7 sl8 sl9 sl10 sl11 sl12 sl13 sl14 sl15 slT slJ : Array (Option Value)} {oc1 kV1 dc1 pm1 cd1 ct1 oc2 kV2 dc2 pm2 cd2 ct2 oc3 kV3 dc3 pm3 cd3 ct3 oc4 kV4 dc4 pm4 cd4 ct4 oc5 kV5 dc5 pm5 cd5 ct5 oc6 kV6 dc6 pm6 cd6 ct6 oc7 kV7 dc7 pm7 cd7 ct7 oc8 kV8 dc8 pm8 cd8 ct8 oc9 kV9 dc9 pm9 cd9 ct9 oc10 kV10 dc10 pm10 cd10 ct10 oc11 kV11 dc11 pm11 cd11 ct11 oc12 kV12 dc12 pm12 cd12 ct12 oc13 kV13 dc13 pm13 cd13 ct13 oc14 kV14 dc14 pm14 cd14 ct14 oc15 kV15 dc15 pm15 cd15 ct15 : Value} {nT nJ : Nat} {uM uT0 uT1 uT2 uT3 uT4 uT5 uT6 uT7 uJ0 uJ1 uJ2 uJ3 uJ4 : Tok}
    (aC : PySem.W.nsIn K mainGlobals "Book" = some (some (.ref C)))
    (aH : PySem.W.nsIn K mainGlobals "HandsError" = some (some (.ref CH)))
    (aN : PySem.W.nsIn K mainGlobals "NoBook" = some (some (.ref CN)))
    (a1 : PySem.W.nsIn K mainGlobals "is_whole" = some (some (.ref f1)))
    (l1 : K.lookup f1 = some ⟨oc1, od1, .func (PySem.W.fnOf "is_whole" "is_whole" (defArgs sWhole) (defBody sWhole) (defScope sWhole) .none kV1 dc1 pm1 an1 cd1 ct1), sl1⟩)
    (c1 : PySem.W.codeIn K cd1 "is_whole" = true)
    (k1 : PySem.W.keepIn K (.ref f1) = true)
    (a2 : PySem.W.nsIn K mainGlobals "look_at_told" = some (some (.ref f2)))
    (l2 : K.lookup f2 = some ⟨oc2, od2, .func (PySem.W.fnOf "look_at_told" "look_at_told" (defArgs sLook) (defBody sLook) (defScope sLook) .none kV2 dc2 pm2 an2 cd2 ct2), sl2⟩)
    (c2 : PySem.W.codeIn K cd2 "look_at_told" = true)
    (k2 : PySem.W.keepIn K (.ref f2) = true)
    (a3 : PySem.W.findIn K (.ref C) "__init__" = some (some (.ref f3)))
    (i3 : PySem.W.isFn K (.ref f3) = true)
    (l3 : K.lookup f3 = some ⟨oc3, od3, .func (PySem.W.fnOf "__init__" "Book.__init__" (defArgs sInit) (defBody sInit) (defScope sInit) .none kV3 dc3 pm3 an3 cd3 ct3), sl3⟩)
    (c3 : PySem.W.codeIn K cd3 "Book.__init__" = true)
    (k3 : PySem.W.keepIn K (.ref f3) = true)
    (a4 : PySem.W.findIn K (.ref C) "put_join" = some (some (.ref f4)))
    (i4 : PySem.W.isFn K (.ref f4) = true)
    (l4 : K.lookup f4 = some ⟨oc4, od4, .func (PySem.W.fnOf "put_join" "Book.put_join" (defArgs sPut) (defBody sPut) (defScope sPut) .none kV4 dc4 pm4 an4 cd4 ct4), sl4⟩)
    (c4 : PySem.W.codeIn K cd4 "Book.put_join" = true)
    (k4 : PySem.W.keepIn K (.ref f4) = true)
    (a5 : PySem.W.findIn K (.ref C) "look_at_goings" = some (some (.ref f5)))
    (i5 : PySem.W.isFn K (.ref f5) = true)
    (l5 : K.lookup f5 = some ⟨oc5, od5, .func (PySem.W.fnOf "look_at_goings" "Book.look_at_goings" (defArgs sGoings) (defBody sGoings) (defScope sGoings) .none kV5 dc5 pm5 an5 cd5 ct5), sl5⟩)
    (c5 : PySem.W.codeIn K cd5 "Book.look_at_goings" = true)
    (k5 : PySem.W.keepIn K (.ref f5) = true)
    (a6 : PySem.W.findIn K (.ref C) "kind" = some (some (.ref f6)))
    (i6 : PySem.W.isFn K (.ref f6) = true)
    (l6 : K.lookup f6 = some ⟨oc6, od6, .func (PySem.W.fnOf "kind" "Book.kind" (defArgs sKind) (defBody sKind) (defScope sKind) .none kV6 dc6 pm6 an6 cd6 ct6), sl6⟩)
    (c6 : PySem.W.codeIn K cd6 "Book.kind" = true)
    (k6 : PySem.W.keepIn K (.ref f6) = true)
    (a7 : PySem.W.findIn K (.ref C) "parts" = some (some (.ref f7)))
    (i7 : PySem.W.isFn K (.ref f7) = true)
    (l7 : K.lookup f7 = some ⟨oc7, od7, .func (PySem.W.fnOf "parts" "Book.parts" (defArgs sParts) (defBody sParts) (defScope sParts) .none kV7 dc7 pm7 an7 cd7 ct7), sl7⟩)
    (c7 : PySem.W.codeIn K cd7 "Book.parts" = true)
    (k7 : PySem.W.keepIn K (.ref f7) = true)
    (a8 : PySem.W.nsIn K mainGlobals "_law_cell_at" = some (some (.ref f8)))
    (l8 : K.lookup f8 = some ⟨oc8, od8, .func (PySem.W.fnOf "_law_cell_at" "_law_cell_at" (defArgs sCell) (defBody sCell) (defScope sCell) .none kV8 dc8 pm8 an8 cd8 ct8), sl8⟩)
    (c8 : PySem.W.codeIn K cd8 "_law_cell_at" = true)
    (k8 : PySem.W.keepIn K (.ref f8) = true)
    (a9 : PySem.W.nsIn K mainGlobals "_law_sign" = some (some (.ref f9)))
    (l9 : K.lookup f9 = some ⟨oc9, od9, .func (PySem.W.fnOf "_law_sign" "_law_sign" (defArgs sSign) (defBody sSign) (defScope sSign) .none kV9 dc9 pm9 an9 cd9 ct9), sl9⟩)
    (c9 : PySem.W.codeIn K cd9 "_law_sign" = true)
    (k9 : PySem.W.keepIn K (.ref f9) = true)
    (a10 : PySem.W.nsIn K mainGlobals "_law_row" = some (some (.ref f10)))
    (l10 : K.lookup f10 = some ⟨oc10, od10, .func (PySem.W.fnOf "_law_row" "_law_row" (defArgs sRow) (defBody sRow) (defScope sRow) .none kV10 dc10 pm10 an10 cd10 ct10), sl10⟩)
    (c10 : PySem.W.codeIn K cd10 "_law_row" = true)
    (k10 : PySem.W.keepIn K (.ref f10) = true)
    (a11 : PySem.W.nsIn K mainGlobals "_law_kind" = some (some (.ref f11)))
    (l11 : K.lookup f11 = some ⟨oc11, od11, .func (PySem.W.fnOf "_law_kind" "_law_kind" (defArgs sKindL) (defBody sKindL) (defScope sKindL) .none kV11 dc11 pm11 an11 cd11 ct11), sl11⟩)
    (c11 : PySem.W.codeIn K cd11 "_law_kind" = true)
    (k11 : PySem.W.keepIn K (.ref f11) = true)
    (a12 : PySem.W.nsIn K mainGlobals "_law_turned" = some (some (.ref f12)))
    (l12 : K.lookup f12 = some ⟨oc12, od12, .func (PySem.W.fnOf "_law_turned" "_law_turned" (defArgs sTurned) (defBody sTurned) (defScope sTurned) .none kV12 dc12 pm12 an12 cd12 ct12), sl12⟩)
    (c12 : PySem.W.codeIn K cd12 "_law_turned" = true)
    (k12 : PySem.W.keepIn K (.ref f12) = true)
    (a13 : PySem.W.nsIn K mainGlobals "_law_refused" = some (some (.ref f13)))
    (l13 : K.lookup f13 = some ⟨oc13, od13, .func (PySem.W.fnOf "_law_refused" "_law_refused" (defArgs sRefused) (defBody sRefused) (defScope sRefused) .none kV13 dc13 pm13 an13 cd13 ct13), sl13⟩)
    (c13 : PySem.W.codeIn K cd13 "_law_refused" = true)
    (k13 : PySem.W.keepIn K (.ref f13) = true)
    (a14 : PySem.W.nsIn K mainGlobals "_law_goes" = some (some (.ref f14)))
    (l14 : K.lookup f14 = some ⟨oc14, od14, .func (PySem.W.fnOf "_law_goes" "_law_goes" (defArgs sGoes) (defBody sGoes) (defScope sGoes) .none kV14 dc14 pm14 an14 cd14 ct14), sl14⟩)
    (c14 : PySem.W.codeIn K cd14 "_law_goes" = true)
    (k14 : PySem.W.keepIn K (.ref f14) = true)
    (a15 : PySem.W.nsIn K mainGlobals "law" = some (some (.ref f15)))
    (l15 : K.lookup f15 = some ⟨oc15, od15, .func (PySem.W.fnOf "law" "law" (defArgs sLaw) (defBody sLaw) (defScope sLaw) .none kV15 dc15 pm15 an15 cd15 ct15), sl15⟩)
    (c15 : PySem.W.codeIn K cd15 "law" = true)
    (k15 : PySem.W.keepIn K (.ref f15) = true)
    (pg : PySem.W.plainGet K C Str.empty = true)
    (hd : PySem.W.hasDictIn K C = true)
    (po : PySem.W.plainOver K C = true)
    (sa : PySem.W.findIn K (.ref C) "__setattr__" = some (some (.builtin "object.__setattr__")))
    (mk : PySem.W.makesIn K C = true)
    (kc : PySem.W.keepIn K (.ref C) = true)
    (n1 : PySem.W.findIn K (.ref C) "known" = some none)
    (n2 : PySem.W.findIn K (.ref C) "others" = some none)
    (n3 : PySem.W.findIn K (.ref C) "halves" = some none)
    (n4 : PySem.W.findIn K (.ref C) "made" = some none)
    (xN : PySem.W.excIn K CN [.type "ValueError", .type "Exception", .type "BaseException", .type "object"] "ValueError.__new__" = true)
    (kN : PySem.W.keepIn K (.ref CN) = true)
    (bN : PySem.W.subIn K (.ref CN) (.type "BaseException") = some true)
    (tN : PySem.W.typeIn K (.ref CN) = some (.type "type"))
    (bH : PySem.W.subIn K (.ref CH) (.type "BaseException") = some true)
    (dH : PySem.W.hasDictIn K CH = true)
    (tH : PySem.W.typeIn K (.ref CH) = some (.type "type"))
    (sNH : PySem.W.subIn K (.ref CN) (.ref CH) = some true)
    (gN : PySem.W.findIn K (.ref CN) "__getattribute__" = some (some (.builtin "BaseException.__getattribute__")))
    (gaN : PySem.W.findIn K (.ref CN) "__getattr__" = some none)
    (dN : PySem.W.hasDictIn K CN = true)
    (clN : PySem.W.findIn K (.ref CN) "__class__" = some (some (.builtin "object.__class__")))
    (spN : PySem.W.specialIn K (.builtin "object.__class__") "__get__" = some (some (.builtin "getset_descriptor.__get__")))
    (tkN : PySem.W.takesIn K (.builtin "object.__class__") = some true)
    (mrN : PySem.W.mroIn K CN (.type "object") = some true)
    (z1 : PySem.W.nsIn K mainGlobals "len" = some none)
    (z2 : PySem.W.nsIn K mainGlobals "range" = some none)
    (z3 : PySem.W.nsIn K mainGlobals "isinstance" = some none)
    (z4 : PySem.W.nsIn K mainGlobals "int" = some none)
    (z5 : PySem.W.nsIn K mainGlobals "bool" = some none)
    (aT : PySem.W.nsIn K mainGlobals "TOLD" = some (some (.ref aTd)))
    (lT : K.lookup aTd = some ⟨.type "tuple", dT, .seq #[.str "fore" uT0, .str "back" uT1, .str "num" uT2, .str "blank" uT3, .str "mark" uT4, .str "forein" uT5, .str "backin" uT6, .str "out" uT7] nT, slT⟩)
    (aJ : PySem.W.nsIn K mainGlobals "JOINED" = some (some (.ref aJd)))
    (lJ : K.lookup aJd = some ⟨.type "tuple", dJ, .seq #[.str "fore" uJ0, .str "back" uJ1, .str "num" uJ2, .str "blank" uJ3, .str "plain" uJ4] nJ, slJ⟩)
    (aM : PySem.W.nsIn K mainGlobals "MOST_GOINGS" = some (some (.int 7 uM)))
    : ∃ fd : FuncData, (∀ (s : Shared) (u : Value), BindsTo s fd ⟨[u], []⟩ [("_law_script", u)]) ∧ ∀ base : Heap, K.In base → base.Ns mainGlobals mg → FnOk l.prog w K mg base CX0 6 fa fd ["_law_script"] (spLaw K) := by
  have e := hfa.symm.trans (PySem.W.mg_of X G a15)
  cases e
  have T : Txt K mg C CH CN := { cl := ⟨pg, hd, po, sa⟩, n1 := n1, n2 := n2, n3 := n3, n4 := n4, gC := PySem.W.mg_of X G aC, gN := PySem.W.mg_of X G aN, gH := PySem.W.mg_of X G aH, xN := xN, kN := kN, bN := bN, tN := tN, eN := PySem.W.exm_ref bH dH tH sNH, ec := ⟨gN, gaN, bN, dN, clN, spN, tkN, mrN⟩, mlen := PySem.W.mg_none_of X G z1, mran := PySem.W.mg_none_of X G z2, misi := PySem.W.mg_none_of X G z3, mint := PySem.W.mg_none_of X G z4, mboo := PySem.W.mg_none_of X G z5, told := ⟨aTd, PySem.W.mg_of X G aT, fun H => .inr ⟨_, _, _, lT, rfl, rfl, (by show 8 ≤ sizeLine; decide), (.cons ⟨_, rfl⟩ (.cons ⟨_, rfl⟩ (.cons ⟨_, rfl⟩ (.cons ⟨_, rfl⟩ (.cons ⟨_, rfl⟩ (.cons ⟨_, rfl⟩ (.cons ⟨_, rfl⟩ (.cons ⟨_, rfl⟩ .nil))))))))⟩⟩, join := ⟨aJd, PySem.W.mg_of X G aJ, fun H => .inr ⟨_, _, _, lJ, rfl, rfl, (by show 5 ≤ sizeLine; decide), (.cons ⟨_, rfl⟩ (.cons ⟨_, rfl⟩ (.cons ⟨_, rfl⟩ (.cons ⟨_, rfl⟩ (.cons ⟨_, rfl⟩ .nil)))))⟩⟩, most := ⟨uM, PySem.W.mg_of X G aM⟩ }
  have F1 := fun_mk (st := sWhole) l1 c1 k1
  have F2 := fun_mk (st := sLook) l2 c2 k2
  have F3 := fun_mk (st := sInit) l3 c3 k3
  have F4 := fun_mk (st := sPut) l4 c4 k4
  have F5 := fun_mk (st := sGoings) l5 c5 k5
  have F6 := fun_mk (st := sKind) l6 c6 k6
  have F7 := fun_mk (st := sParts) l7 c7 k7
  have F8 := fun_mk (st := sCell) l8 c8 k8
  have F9 := fun_mk (st := sSign) l9 c9 k9
  have F10 := fun_mk (st := sRow) l10 c10 k10
  have F11 := fun_mk (st := sKindL) l11 c11 k11
  have F12 := fun_mk (st := sTurned) l12 c12 k12
  have F13 := fun_mk (st := sRefused) l13 c13 k13
  have F14 := fun_mk (st := sGoes) l14 c14 k14
  have F15 := fun_mk (st := sLaw) l15 c15 k15
  have b1 := F1.binds (ps := ["thing"]) fun _ _ _ _ _ _ us hl => match us, hl with | [_], _ => rfl
  have b2 := F2.binds (ps := ["sign", "kind", "rank", "known"]) fun _ _ _ _ _ _ us hl => match us, hl with | [_, _, _, _], _ => rfl
  have b3 := F3.binds (ps := ["self", "signs", "mates", "joins"]) fun _ _ _ _ _ _ us hl => match us, hl with | [_, _, _, _], _ => rfl
  have b4 := F4.binds (ps := ["self", "whole", "base", "mark"]) fun _ _ _ _ _ _ us hl => match us, hl with | [_, _, _, _], _ => rfl
  have b5 := F5.binds (ps := ["self", "whole"]) fun _ _ _ _ _ _ us hl => match us, hl with | [_, _], _ => rfl
  have b6 := F6.binds (ps := ["self", "sign"]) fun _ _ _ _ _ _ us hl => match us, hl with | [_, _], _ => rfl
  have b7 := F7.binds (ps := ["self", "sign"]) fun _ _ _ _ _ _ us hl => match us, hl with | [_, _], _ => rfl
  have b8 := F8.binds (ps := ["_law_script", "_law_k"]) fun _ _ _ _ _ _ us hl => match us, hl with | [_, _], _ => rfl
  have b9 := F9.binds (ps := ["_law_script", "_law_k"]) fun _ _ _ _ _ _ us hl => match us, hl with | [_, _], _ => rfl
  have b10 := F10.binds (ps := ["_law_script", "_law_first", "_law_many", "_law_kind_here"]) fun _ _ _ _ _ _ us hl => match us, hl with | [_, _, _, _], _ => rfl
  have b11 := F11.binds (ps := ["_law_cell"]) fun _ _ _ _ _ _ us hl => match us, hl with | [_], _ => rfl
  have b12 := F12.binds (ps := ["_law_joins", "_law_cell"]) fun _ _ _ _ _ _ us hl => match us, hl with | [_, _], _ => rfl
  have b13 := F13.binds (ps := ["_law_told", "_law_joins"]) fun _ _ _ _ _ _ us hl => match us, hl with | [_, _], _ => rfl
  have b14 := F14.binds (ps := ["_law_book", "_law_script", "_law_first", "_law_many"]) fun _ _ _ _ _ _ us hl => match us, hl with | [_, _, _, _], _ => rfl
  refine ⟨PySem.W.fnOf "law" "law" (defArgs sLaw) (defBody sLaw) (defScope sLaw) .none kV15 dc15 pm15 an15 cd15 ct15, fun s u => .of_eq rfl, fun base _ _ => ?_⟩
  have GI : FnOk l.prog w K mg base (L2.CX l.prog w) 3 f3 _ ["self", "signs", "mates", "joins"] (spInit C CN) := ok_init F3 T F1 (PySem.W.mg_of X G a1) b1 F2 (PySem.W.mg_of X G a2) b2 F6 b6 ⟨a6, i6, k6⟩ F4 b4 ⟨a4, i4, k4⟩ F5 b5 ⟨a5, i5, k5⟩
  have M : Mk K C f3 := ⟨mk, a3, i3, kc⟩
  exact ok_law T { M := M, bI := b3, GI := GI, GS := ok_sign F9 T F8 (PySem.W.mg_of X G a8) b8, gS := (PySem.W.mg_of X G a9), kS := k9, bS := b9, GC := ok_cell F8 T, gC := (PySem.W.mg_of X G a8), kC := k8, bC := b8, GP := ok_parts F7 T, mP := ⟨a7, i7, k7⟩, bP := b7, GR := ok_row F10 T F9 (PySem.W.mg_of X G a9) b9 F8 (PySem.W.mg_of X G a8) b8, gR := (PySem.W.mg_of X G a10), kR := k10, bR := b10, GK := ok_kindL F11, gK := (PySem.W.mg_of X G a11), kK := k11, bK := b11, GT := ok_turned F12 T, gT := (PySem.W.mg_of X G a12), kT := k12, bT := b12, GF := ok_refused F13 T M b3 GI, gF := (PySem.W.mg_of X G a13), kF := k13, bF := b13, GO := ok_goes F14 T F9 (PySem.W.mg_of X G a9) b9 F8 (PySem.W.mg_of X G a8) b8 F7 b7 ⟨a7, i7, k7⟩, gO := (PySem.W.mg_of X G a14), kO := k14, bO := b14 } F15
end Bk
open PySem PySem.W PyProof.Rows
set_option maxRecDepth 100000 in
set_option maxHeartbeats 0 in
theorem PySem.Challenge.cw_bothhands_k05_goings_holds : PySem.Challenge.rw_bothhands_k05_goings.Holds := by
  w_on; o_law; k_head; (case hw => w_witness2)
  k_fill
  refine L2.walk_of (l := PySem.Challenge.rw_bothhands_k05_goings) (n := 63) (k := 6) (x := "_law_script") (CX := fun _ => L2.CX0) (sp := fun w => Bk.spLaw _) rfl (by decide) rfl ⟨rfl, by decide, by decide⟩ (fun w h Y => PySem.W.kIn_of Y) ?F (fun _ _ a ns hl _ hS => ⟨a, ns, rfl, hS, hl, fun _ => rfl⟩) (fun _ _ _ _ _ z => z)
  case F =>
    intro w mg fa h KX G hmg
    refine' Bk.all_mk KX G hmg ?aC ?aH ?aN ?a1 ?l1 ?c1 ?k1 ?a2 ?l2 ?c2 ?k2 ?a3 ?i3 ?l3 ?c3 ?k3 ?a4 ?i4 ?l4 ?c4 ?k4 ?a5 ?i5 ?l5 ?c5 ?k5 ?a6 ?i6 ?l6 ?c6 ?k6 ?a7 ?i7 ?l7 ?c7 ?k7 ?a8 ?l8 ?c8 ?k8 ?a9 ?l9 ?c9 ?k9 ?a10 ?l10 ?c10 ?k10 ?a11 ?l11 ?c11 ?k11 ?a12 ?l12 ?c12 ?k12 ?a13 ?l13 ?c13 ?k13 ?a14 ?l14 ?c14 ?k14 ?a15 ?l15 ?c15 ?k15 ?pg ?hd ?po ?sa ?mk ?kc ?n1 ?n2 ?n3 ?n4 ?xN ?kN ?bN ?tN ?bH ?dH ?tH ?sNH ?gN ?gaN ?dN ?clN ?spN ?tkN ?mrN ?z1 ?z2 ?z3 ?z4 ?z5 ?aT ?lT ?aJ ?lJ ?aM
    (case aC => k_is)
    (case aH => k_is)
    (case aN => k_is)
    (case a1 => k_is)
    (case l1 => k_is)
    (case c1 => k_is)
    (case k1 => k_is)
    (case a2 => k_is)
    (case l2 => k_is)
    (case c2 => k_is)
    (case k2 => k_is)
    (case a3 => k_is)
    (case i3 => k_is)
    (case l3 => k_is)
    (case c3 => k_is)
    (case k3 => k_is)
    (case a4 => k_is)
    (case i4 => k_is)
    (case l4 => k_is)
    (case c4 => k_is)
    (case k4 => k_is)
    (case a5 => k_is)
    (case i5 => k_is)
    (case l5 => k_is)
    (case c5 => k_is)
    (case k5 => k_is)
    (case a6 => k_is)
    (case i6 => k_is)
    (case l6 => k_is)
    (case c6 => k_is)
    (case k6 => k_is)
    (case a7 => k_is)
    (case i7 => k_is)
    (case l7 => k_is)
    (case c7 => k_is)
    (case k7 => k_is)
    (case a8 => k_is)
    (case l8 => k_is)
    (case c8 => k_is)
    (case k8 => k_is)
    (case a9 => k_is)
    (case l9 => k_is)
    (case c9 => k_is)
    (case k9 => k_is)
    (case a10 => k_is)
    (case l10 => k_is)
    (case c10 => k_is)
    (case k10 => k_is)
    (case a11 => k_is)
    (case l11 => k_is)
    (case c11 => k_is)
    (case k11 => k_is)
    (case a12 => k_is)
    (case l12 => k_is)
    (case c12 => k_is)
    (case k12 => k_is)
    (case a13 => k_is)
    (case l13 => k_is)
    (case c13 => k_is)
    (case k13 => k_is)
    (case a14 => k_is)
    (case l14 => k_is)
    (case c14 => k_is)
    (case k14 => k_is)
    (case a15 => k_is)
    (case l15 => k_is)
    (case c15 => k_is)
    (case k15 => k_is)
    (case pg => k_is)
    (case hd => k_is)
    (case po => k_is)
    (case sa => k_is)
    (case mk => k_is)
    (case kc => k_is)
    (case n1 => k_is)
    (case n2 => k_is)
    (case n3 => k_is)
    (case n4 => k_is)
    (case xN => k_exc)
    (case kN => k_is)
    (case bN => k_is)
    (case tN => k_is)
    (case bH => k_is)
    (case dH => k_is)
    (case tH => k_is)
    (case sNH => k_is)
    (case gN => k_is)
    (case gaN => k_is)
    (case dN => k_is)
    (case clN => k_is)
    (case spN => k_is)
    (case tkN => k_is)
    (case mrN => k_is)
    (case z1 => k_is)
    (case z2 => k_is)
    (case z3 => k_is)
    (case z4 => k_is)
    (case z5 => k_is)
    (case aT => k_is)
    (case lT => k_is)
    (case aJ => k_is)
    (case lJ => k_is)
    (case aM => k_is)
