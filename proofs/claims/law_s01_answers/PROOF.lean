import PyProof.Rows.All
import Wide.All
import OpenK.AllK
import Wide.FinOn
import PyProof.EqAt
import PyProof.EqKinds
import PyProof.TupleCall
import Open.SpecLaws
import KE.OsGo
import HandS.ForMost
import HandS.ForSpec
import HandS.Conv
import HandS.Deep
import HandS.Walk
import HandS.TupSets
import HandS.NoneIn
import HandS.ExcInit
import HandS.ExcField
import HandS.CallLocal
import HandS.CallSlots
import PySem.Challenge.RW_factcores_s01_answers
import HandS.Sort
set_option autoImplicit false
/-! FcMath: the plain law. What the program computes, in plain Lean, against the functions of the specification. No program in sight. -/
namespace FC
open Dx (Fact Facts Map)

/-! ### the order of facts -/
def flt (f g : Fact) : Prop := f.t < g.t ∨ (f.t = g.t ∧ (f.a < g.a ∨ (f.a = g.a ∧ f.b < g.b)))
theorem less_iff (f g : Fact) : Dx.less f.key g.key = true ↔ flt f g := by
  unfold flt Fact.key
  simp only [Dx.less, Bool.or_eq_true, Bool.and_eq_true, decide_eq_true_eq, beq_iff_eq, Bool.false_eq_true, and_false, or_false]
theorem fact_ext {f g : Fact} (h1 : f.t = g.t) (h2 : f.a = g.a) (h3 : f.b = g.b) : f = g := by
  cases f
  cases g
  simp_all
theorem flt_irrefl (f : Fact) : ¬ flt f f := by
  unfold flt
  omega
theorem flt_trans {f g h : Fact} (a : flt f g) (b : flt g h) : flt f h := by
  unfold flt at *
  omega
theorem flt_asymm {f g : Fact} (a : flt f g) (b : flt g f) : False := flt_irrefl f (flt_trans a b)
theorem flt_tri (f g : Fact) : flt f g ∨ f = g ∨ flt g f := by
  by_cases h : f.t = g.t ∧ f.a = g.a ∧ f.b = g.b
  · exact .inr (.inl (fact_ext h.1 h.2.1 h.2.2))
  · unfold flt
    omega
/-- strictly rising -/
abbrev Srt (l : Facts) : Prop := l.Pairwise flt

theorem mem_put {f g : Fact} : ∀ {l : Facts}, g ∈ Dx.put f l ↔ g = f ∨ g ∈ l
  | [] => by simp [Dx.put]
  | x :: r => by
    unfold Dx.put
    have ih := mem_put (f := f) (g := g) (l := r)
    by_cases e : f = x
    · rw [if_pos e]
      subst e
      simp
    · rw [if_neg e]
      by_cases c : Dx.less f.key x.key = true
      · rw [if_pos c]
        simp
      · rw [if_neg c, List.mem_cons, ih, List.mem_cons]
        constructor
        · rintro (h | h | h)
          · exact .inr (.inl h)
          · exact .inl h
          · exact .inr (.inr h)
        · rintro (h | h | h)
          · exact .inr (.inl h)
          · exact .inl h
          · exact .inr (.inr h)
theorem srt_put {f : Fact} : ∀ {l : Facts}, Srt l → Srt (Dx.put f l)
  | [], _ => by simp [Dx.put, Srt]
  | x :: r, h => by
    obtain ⟨h1, h2⟩ := List.pairwise_cons.mp h
    unfold Dx.put
    by_cases e : f = x
    · rw [if_pos e]
      exact h
    · rw [if_neg e]
      by_cases c : Dx.less f.key x.key = true
      · rw [if_pos c]
        have c' := (less_iff f x).mp c
        refine List.pairwise_cons.mpr ⟨fun y hy => ?_, h⟩
        rcases List.mem_cons.mp hy with z | z
        · rw [z]
          exact c'
        · exact flt_trans c' (h1 y z)
      · rw [if_neg c]
        have c' : flt x f := by
          rcases flt_tri f x with z | z | z
          · exact absurd ((less_iff f x).mpr z) c
          · exact absurd z e
          · exact z
        refine List.pairwise_cons.mpr ⟨fun y hy => ?_, srt_put h2⟩
        rcases mem_put.mp hy with z | z
        · rw [z]
          exact c'
        · exact h1 y z
theorem tidy_go : ∀ (l s : Facts), Srt s → Srt (l.foldl (fun s f => Dx.put f s) s) ∧ ∀ g, g ∈ l.foldl (fun s f => Dx.put f s) s ↔ g ∈ s ∨ g ∈ l
  | [], s, h => ⟨h, fun g => by simp⟩
  | f :: r, s, h => by
    obtain ⟨h1, h2⟩ := tidy_go r (Dx.put f s) (srt_put h)
    refine ⟨h1, fun g => ?_⟩
    rw [List.foldl_cons, h2 g, mem_put, List.mem_cons]
    constructor
    · rintro ((z | z) | z)
      · exact .inr (.inl z)
      · exact .inl z
      · exact .inr (.inr z)
    · rintro (z | z | z)
      · exact .inl (.inr z)
      · exact .inl (.inl z)
      · exact .inr z
theorem srt_tidy (l : Facts) : Srt (Dx.tidy l) := (tidy_go l [] List.Pairwise.nil).1
theorem mem_tidy {l : Facts} {g : Fact} : g ∈ Dx.tidy l ↔ g ∈ l := by
  have h := (tidy_go l [] List.Pairwise.nil).2 g
  simp only [List.not_mem_nil, false_or] at h
  exact h
/-- two strictly rising lists of the same members are one -/
theorem srt_ext : ∀ {l k : Facts}, Srt l → Srt k → (∀ f, f ∈ l ↔ f ∈ k) → l = k
  | [], [], _, _, _ => rfl
  | [], x :: r, _, _, h => by
    have := (h x).mpr List.mem_cons_self
    simp at this
  | x :: r, [], _, _, h => by
    have := (h x).mp List.mem_cons_self
    simp at this
  | x :: r, y :: s, hl, hk, h => by
    obtain ⟨h1, h2⟩ := List.pairwise_cons.mp hl
    obtain ⟨k1, k2⟩ := List.pairwise_cons.mp hk
    have e : x = y := by
      rcases List.mem_cons.mp ((h x).mp List.mem_cons_self) with z | z
      · exact z
      · rcases List.mem_cons.mp ((h y).mpr List.mem_cons_self) with w | w
        · exact w.symm
        · exact (flt_asymm (h1 y w) (k1 x z)).elim
    subst e
    have hn : ∀ f, f ∈ r ↔ f ∈ s := fun f => by
      constructor
      · intro hf
        rcases List.mem_cons.mp ((h f).mp (List.mem_cons_of_mem _ hf)) with z | z
        · subst z
          exact (flt_irrefl f (h1 f hf)).elim
        · exact z
      · intro hf
        rcases List.mem_cons.mp ((h f).mpr (List.mem_cons_of_mem _ hf)) with z | z
        · subst z
          exact (flt_irrefl f (k1 f hf)).elim
        · exact z
    rw [srt_ext h2 k2 hn]
theorem tidy_of {l k : Facts} (h : Srt k) (m : ∀ f, f ∈ k ↔ f ∈ l) : k = Dx.tidy l := srt_ext h (srt_tidy l) fun f => (m f).trans mem_tidy.symm
theorem srt_nodup {l : Facts} (h : Srt l) : l.Nodup := List.Pairwise.imp (fun {a b} hab e => by subst e; exact flt_irrefl a hab) h
theorem tidy_self {l : Facts} (h : Srt l) : Dx.tidy l = l := (tidy_of h fun _ => Iff.rfl).symm

/-! ### values, rising -/
abbrev SrtN (l : List Nat) : Prop := l.Pairwise (· < ·)
theorem mem_up {v w : Nat} : ∀ {l : List Nat}, w ∈ Dx.up v l ↔ w = v ∨ w ∈ l
  | [] => by simp [Dx.up]
  | x :: r => by
    unfold Dx.up
    have ih := mem_up (v := v) (w := w) (l := r)
    by_cases e : v = x
    · rw [if_pos e]
      subst e
      simp
    · rw [if_neg e]
      by_cases c : v < x
      · rw [if_pos c]
        simp
      · rw [if_neg c, List.mem_cons, ih, List.mem_cons]
        constructor
        · rintro (h | h | h)
          · exact .inr (.inl h)
          · exact .inl h
          · exact .inr (.inr h)
        · rintro (h | h | h)
          · exact .inr (.inl h)
          · exact .inl h
          · exact .inr (.inr h)
theorem srt_up {v : Nat} : ∀ {l : List Nat}, SrtN l → SrtN (Dx.up v l)
  | [], _ => by simp [Dx.up, SrtN]
  | x :: r, h => by
    obtain ⟨h1, h2⟩ := List.pairwise_cons.mp h
    unfold Dx.up
    by_cases e : v = x
    · rw [if_pos e]
      exact h
    · rw [if_neg e]
      by_cases c : v < x
      · rw [if_pos c]
        refine List.pairwise_cons.mpr ⟨fun y hy => ?_, h⟩
        rcases List.mem_cons.mp hy with z | z
        · rw [z]
          exact c
        · exact Nat.lt_trans c (h1 y z)
      · rw [if_neg c]
        refine List.pairwise_cons.mpr ⟨fun y hy => ?_, srt_up h2⟩
        rcases mem_up.mp hy with z | z
        · rw [z]
          omega
        · exact h1 y z
theorem vals_go : ∀ (l s : List Nat), SrtN s → SrtN (l.foldl (fun m v => Dx.up v m) s) ∧ ∀ g, g ∈ l.foldl (fun m v => Dx.up v m) s ↔ g ∈ s ∨ g ∈ l
  | [], s, h => ⟨h, fun g => by simp⟩
  | f :: r, s, h => by
    obtain ⟨h1, h2⟩ := vals_go r (Dx.up f s) (srt_up h)
    refine ⟨h1, fun g => ?_⟩
    rw [List.foldl_cons, h2 g, mem_up, List.mem_cons]
    constructor
    · rintro ((z | z) | z)
      · exact .inr (.inl z)
      · exact .inl z
      · exact .inr (.inr z)
    · rintro (z | z | z)
      · exact .inl (.inr z)
      · exact .inl (.inl z)
      · exact .inr z
/-- the values of a fact list, in their order -/
def flat (l : Facts) : List Nat := l.flatMap fun f => [f.a, f.b]
theorem mem_flat {l : Facts} {v : Nat} : v ∈ flat l ↔ ∃ f ∈ l, v = f.a ∨ v = f.b := by
  unfold flat
  rw [List.mem_flatMap]
  constructor
  · rintro ⟨f, hf, h⟩
    exact ⟨f, hf, by simpa using h⟩
  · rintro ⟨f, hf, h⟩
    exact ⟨f, hf, by simpa using h⟩
theorem srt_values (l : Facts) : SrtN (Dx.values l) := (vals_go (flat l) [] List.Pairwise.nil).1
theorem mem_values {l : Facts} {v : Nat} : v ∈ Dx.values l ↔ v ∈ flat l := by
  have h := (vals_go (flat l) [] List.Pairwise.nil).2 v
  simp only [List.not_mem_nil, false_or] at h
  exact h
theorem srtN_ext : ∀ {l k : List Nat}, SrtN l → SrtN k → (∀ f, f ∈ l ↔ f ∈ k) → l = k
  | [], [], _, _, _ => rfl
  | [], x :: r, _, _, h => by
    have := (h x).mpr List.mem_cons_self
    simp at this
  | x :: r, [], _, _, h => by
    have := (h x).mp List.mem_cons_self
    simp at this
  | x :: r, y :: s, hl, hk, h => by
    obtain ⟨h1, h2⟩ := List.pairwise_cons.mp hl
    obtain ⟨k1, k2⟩ := List.pairwise_cons.mp hk
    have e : x = y := by
      rcases List.mem_cons.mp ((h x).mp List.mem_cons_self) with z | z
      · exact z
      · rcases List.mem_cons.mp ((h y).mpr List.mem_cons_self) with w | w
        · exact w.symm
        · have := h1 y w
          have := k1 x z
          omega
    subst e
    have hn : ∀ f, f ∈ r ↔ f ∈ s := fun f => by
      constructor
      · intro hf
        rcases List.mem_cons.mp ((h f).mp (List.mem_cons_of_mem _ hf)) with z | z
        · subst z
          exact (Nat.lt_irrefl f (h1 f hf)).elim
        · exact z
      · intro hf
        rcases List.mem_cons.mp ((h f).mpr (List.mem_cons_of_mem _ hf)) with z | z
        · subst z
          exact (Nat.lt_irrefl f (k1 f hf)).elim
        · exact z
    rw [srtN_ext h2 k2 hn]
theorem values_of_srt {l : Facts} {k : List Nat} (h : SrtN k) (m : ∀ v, v ∈ k ↔ v ∈ flat l) : k = Dx.values l := srtN_ext h (srt_values l) fun v => (m v).trans mem_values.symm
theorem srtN_nodup {l : List Nat} (h : SrtN l) : l.Nodup := List.Pairwise.imp (fun {a b} hab e => by omega) h
theorem mem_unknowns {l : Facts} {v : Nat} : v ∈ Dx.unknowns l ↔ v ∈ flat l ∧ Dx.known v = false := by
  unfold Dx.unknowns
  rw [List.mem_filter, mem_values]
  simp
theorem srt_unknowns (l : Facts) : SrtN (Dx.unknowns l) := List.Pairwise.filter _ (srt_values l)
theorem flat_len (l : Facts) : (flat l).length = 2 * l.length := by
  induction l with
  | nil => rfl
  | cons f r ih =>
    show (f.a :: f.b :: flat r).length = _
    rw [List.length_cons, List.length_cons, ih, List.length_cons]
    omega
theorem nodup_sub_len {α : Type} [DecidableEq α] : ∀ {l k : List α}, l.Nodup → (∀ x ∈ l, x ∈ k) → l.length ≤ k.length
  | [], _, _, _ => Nat.zero_le _
  | x :: r, k, hn, hs => by
    obtain ⟨h1, h2⟩ := List.nodup_cons.mp hn
    have hx : x ∈ k := hs x List.mem_cons_self
    have := nodup_sub_len (l := r) (k := k.erase x) h2 fun y hy => by
      have hy' := hs y (List.mem_cons_of_mem _ hy)
      refine (List.mem_erase_of_ne fun e => ?_).mpr hy'
      subst e
      exact h1 hy
    rw [List.length_erase_of_mem hx] at this
    have hp := List.length_pos_of_mem hx
    rw [List.length_cons]
    omega
theorem values_len (l : Facts) : (Dx.values l).length ≤ 2 * l.length := by
  rw [← flat_len]
  exact nodup_sub_len (srtN_nodup (srt_values l)) fun x hx => mem_values.mp hx
theorem unknowns_len (l : Facts) : (Dx.unknowns l).length ≤ 2 * l.length := Nat.le_trans (List.length_filter_le _ _) (values_len l)

/-! ### mappings -/
def has (m : Map) (v : Nat) : Bool := m.any fun p => p.1 == v
def settled (m : Map) (f : Fact) : Bool := (Dx.known f.a || has m f.a) && (Dx.known f.b || has m f.b)
/-- may_go_on -/
def mayGo (l k : Facts) (m : Map) : Bool := l.all fun f => !(settled m f && !k.contains (m.fact f))

theorem find_isSome (m : Map) (v : Nat) : (m.find? fun p => p.1 == v).isSome = has m v := by
  unfold has
  induction m with
  | nil => rfl
  | cons p r ih =>
    rw [List.find?_cons, List.any_cons]
    cases p.1 == v with
    | true => rfl
    | false => simpa using ih
theorem of_known {m : Map} {v : Nat} (h : Dx.known v = true) : m.of v = v := by
  unfold Map.of
  rw [if_pos h]
theorem of_unknown {m : Map} {v : Nat} (h : Dx.known v = false) : m.of v = ((m.find? fun p => p.1 == v).map fun p => p.2).getD v := by
  unfold Map.of
  rw [if_neg (by rw [h]; decide)]
theorem of_append {m n : Map} {v : Nat} (h : (Dx.known v || has m v) = true) : Map.of (m ++ n) v = m.of v := by
  unfold Map.of
  by_cases k : Dx.known v = true
  · rw [if_pos k, if_pos k]
  · rw [if_neg k, if_neg k]
    have hm : has m v = true := by
      simpa [k] using h
    rw [← find_isSome] at hm
    rw [List.find?_append]
    obtain ⟨p, hp⟩ := Option.isSome_iff_exists.mp hm
    rw [hp]
    rfl
theorem fact_append {m n : Map} {f : Fact} (h : settled m f = true) : Map.fact (m ++ n) f = m.fact f := by
  unfold settled at h
  rw [Bool.and_eq_true] at h
  unfold Map.fact
  rw [of_append h.1, of_append h.2]
theorem has_append (m n : Map) (v : Nat) : has (m ++ n) v = (has m v || has n v) := List.any_append
theorem settled_append {m n : Map} {f : Fact} (h : settled m f = true) : settled (m ++ n) f = true := by
  unfold settled at *
  rw [Bool.and_eq_true, Bool.or_eq_true, Bool.or_eq_true] at h ⊢
  rw [has_append, has_append, Bool.or_eq_true, Bool.or_eq_true]
  rcases h with ⟨h1 | h1, h2 | h2⟩ <;> simp [h1, h2]
theorem mayGo_false {l k : Facts} {m : Map} : mayGo l k m = false ↔ ∃ f ∈ l, settled m f = true ∧ k.contains (m.fact f) = false := by
  unfold mayGo
  rw [List.all_eq_false]
  constructor
  · rintro ⟨f, hf, h⟩
    refine ⟨f, hf, ?_⟩
    cases a : settled m f <;> cases b : k.contains (m.fact f) <;> simp_all
  · rintro ⟨f, hf, h1, h2⟩
    refine ⟨f, hf, ?_⟩
    rw [h1, h2]
    decide
theorem mayGo_append {l k : Facts} {m n : Map} (h : mayGo l k m = false) : mayGo l k (m ++ n) = false := by
  obtain ⟨f, hf, h1, h2⟩ := mayGo_false.mp h
  exact mayGo_false.mpr ⟨f, hf, settled_append h1, by rw [fact_append h1]; exact h2⟩
theorem into_prune {l k : Facts} : ∀ (r : List Nat) (m : Map), mayGo l k m = false → Dx.into l k r m = none
  | [], m, h => by
    obtain ⟨f, hf, h1, h2⟩ := mayGo_false.mp h
    unfold Dx.into
    rw [if_neg]
    intro c
    rw [List.all_eq_true] at c
    rw [c f hf] at h2
    cases h2
  | u :: r, m, h => by
    unfold Dx.into
    rw [List.findSome?_eq_none_iff]
    intro v _
    exact into_prune r _ (mayGo_append h)
/-- all unknown values of a set are told -/
def Total (l : Facts) (m : Map) : Prop := ∀ v ∈ Dx.unknowns l, has m v = true
theorem total_settled {l : Facts} {m : Map} (h : Total l m) {f : Fact} (hf : f ∈ l) : settled m f = true := by
  have one : ∀ v, v ∈ flat l → (Dx.known v || has m v) = true := fun v hv => by
    cases k : Dx.known v with
    | true => rfl
    | false => rw [h v (mem_unknowns.mpr ⟨hv, k⟩)]; rfl
  unfold settled
  rw [one _ (mem_flat.mpr ⟨f, hf, .inl rfl⟩), one _ (mem_flat.mpr ⟨f, hf, .inr rfl⟩)]
  rfl
theorem into_done {l k : Facts} {m : Map} (h : Total l m) (g : mayGo l k m = true) : Dx.into l k [] m = some m := by
  unfold Dx.into
  rw [if_pos]
  rw [List.all_eq_true]
  intro f hf
  cases c : k.contains (m.fact f) with
  | true => rfl
  | false =>
    rw [mayGo_false.mpr ⟨f, hf, total_settled h hf, c⟩] at g
    cases g
theorem into_cons (l k : Facts) (u : Nat) (r : List Nat) (m : Map) : Dx.into l k (u :: r) m = (Dx.values k).findSome? fun v => Dx.into l k r (m ++ [(u, v)]) := rfl

/-! ### isomorphisms -/
theorem names_prune {l k : Facts} : ∀ (r : List Nat) (m : Map), mayGo l k m = false → Dx03.names l k r m = none
  | [], m, h => by
    obtain ⟨f, hf, h1, h2⟩ := mayGo_false.mp h
    unfold Dx03.names
    rw [if_neg]
    intro c
    have q : m.fact f ∈ k := by
      rw [← c]
      exact mem_tidy.mpr (List.mem_map.mpr ⟨f, hf, rfl⟩)
    rw [List.contains_iff_mem.mpr q] at h2
    cases h2
  | u :: r, m, h => by
    unfold Dx03.names
    rw [List.findSome?_eq_none_iff]
    intro v _
    split
    · rfl
    · exact names_prune r _ (mayGo_append h)
theorem names_nil (l k : Facts) (m : Map) : Dx03.names l k [] m = if Dx.tidy (l.map m.fact) = k then some m else none := rfl
theorem names_cons (l k : Facts) (u : Nat) (r : List Nat) (m : Map) : Dx03.names l k (u :: r) m = (Dx.unknowns k).findSome? fun v => if (m.any fun p => p.2 == v) = true then none else Dx03.names l k r (m ++ [(u, v)]) := rfl

/-- what a found isomorphism is -/
structure Iso (l k : Facts) (us : List Nat) (m : Map) : Prop where
  keys : m.map (·.1) = us
  vals : (m.map (·.2)).Nodup
  unk : ∀ v ∈ m.map (·.2), v ∈ Dx.unknowns k
theorem names_iso {l k : Facts} : ∀ (r : List Nat) (m m' : Map) (us : List Nat), Iso l k us m → Dx03.names l k r m = some m' → Iso l k (us ++ r) m' ∧ Dx.tidy (l.map m'.fact) = k
  | [], m, m', us, h, e => by
    rw [names_nil] at e
    by_cases c : Dx.tidy (l.map m.fact) = k
    · rw [if_pos c] at e
      cases e
      rw [List.append_nil]
      exact ⟨h, c⟩
    · rw [if_neg c] at e
      cases e
  | u :: r, m, m', us, h, e => by
    rw [names_cons] at e
    obtain ⟨v, hv, e⟩ := List.exists_of_findSome?_eq_some e
    by_cases c : (m.any fun p => p.2 == v) = true
    · rw [if_pos c] at e
      cases e
    · rw [if_neg c] at e
      have hv' : v ∉ m.map (·.2) := fun q => by
        obtain ⟨p, hp, e2⟩ := List.mem_map.mp q
        exact c (List.any_eq_true.mpr ⟨p, hp, by simpa using e2⟩)
      have I : Iso l k (us ++ [u]) (m ++ [(u, v)]) := by
        refine ⟨by rw [List.map_append, h.keys]; rfl, ?_, fun w hw => ?_⟩
        · rw [List.map_append]
          refine List.nodup_append.mpr ⟨h.vals, List.pairwise_singleton _ _, fun a ha b hb eab => ?_⟩
          have hb' : b = v := by simpa using hb
          rw [eab, hb'] at ha
          exact hv' ha
        · rw [List.map_append] at hw
          rcases List.mem_append.mp hw with z | z
          · exact h.unk w z
          · have z' : w = v := by simpa using z
            rw [z']
            exact hv
      have q := names_iso r _ m' _ I e
      rw [List.append_assoc] at q
      exact q
theorem find_of_mem : ∀ {m : Map} {u v : Nat}, (m.map (·.1)).Nodup → (u, v) ∈ m → (m.find? fun p => p.1 == u) = some (u, v)
  | [], _, _, _, h => by simp at h
  | p :: r, u, v, hn, h => by
    have hn' : (p.1 :: r.map (·.1)).Nodup := hn
    obtain ⟨h1, h2⟩ := List.nodup_cons.mp hn'
    rw [List.find?_cons]
    rcases List.mem_cons.mp h with e | h
    · subst e
      simp
    · have ne : (p.1 == u) = false := by
        rw [beq_eq_false_iff_ne]
        intro e
        exact h1 (List.mem_map.mpr ⟨(u, v), h, e.symm⟩)
      rw [ne]
      exact find_of_mem h2 h
theorem of_mem {m : Map} {u v : Nat} (hn : (m.map (·.1)).Nodup) (hu : Dx.known u = false) (h : (u, v) ∈ m) : m.of u = v := by
  rw [of_unknown hu, find_of_mem hn h]
  rfl
theorem has_iff {m : Map} {v : Nat} : has m v = true ↔ v ∈ m.map (·.1) := by
  unfold has
  rw [List.any_eq_true, List.mem_map]
  simp
theorem inj_of_nodup : ∀ {m : Map} {p q : Nat × Nat}, (m.map (·.2)).Nodup → p ∈ m → q ∈ m → p.2 = q.2 → p = q
  | [], _, _, _, h, _, _ => by simp at h
  | x :: r, p, q, hn, hp, hq, e => by
    have hn' : (x.2 :: r.map (·.2)).Nodup := hn
    obtain ⟨h1, h2⟩ := List.nodup_cons.mp hn'
    rcases List.mem_cons.mp hp with a | a
    · rcases List.mem_cons.mp hq with b | b
      · rw [a, b]
      · subst a
        exact (h1 (List.mem_map.mpr ⟨q, b, e.symm⟩)).elim
    · rcases List.mem_cons.mp hq with b | b
      · subst b
        exact (h1 (List.mem_map.mpr ⟨p, a, e⟩)).elim
      · exact inj_of_nodup h2 a b e
theorem iso_at {l k : Facts} {m : Map} (I : Iso l k (Dx.unknowns l) m) {u : Nat} (hu : u ∈ Dx.unknowns l) : (u, m.of u) ∈ m := by
  have hk : u ∈ m.map (·.1) := by
    rw [I.keys]
    exact hu
  obtain ⟨⟨a, v⟩, hp, e⟩ := List.mem_map.mp hk
  have e' : a = u := e
  subst e'
  have hn : (m.map (·.1)).Nodup := by
    rw [I.keys]
    exact srtN_nodup (srt_unknowns l)
  rw [of_mem hn (mem_unknowns.mp hu).2 hp]
  exact hp
theorem iso_unknown {l k : Facts} {m : Map} (I : Iso l k (Dx.unknowns l) m) {u : Nat} (hu : u ∈ Dx.unknowns l) : m.of u ∈ Dx.unknowns k :=
  I.unk _ (List.mem_map.mpr ⟨_, iso_at I hu, rfl⟩)
theorem iso_inj {l k : Facts} {m : Map} (I : Iso l k (Dx.unknowns l) m) {u v : Nat} (hu : u ∈ flat l) (hv : v ∈ flat l) (e : m.of u = m.of v) : u = v := by
  cases ku : Dx.known u with
  | true =>
    cases kv : Dx.known v with
    | true =>
      rw [of_known ku, of_known kv] at e
      exact e
    | false =>
      have q := (mem_unknowns.mp (iso_unknown I (mem_unknowns.mpr ⟨hv, kv⟩))).2
      rw [← e, of_known ku, ku] at q
      cases q
  | false =>
    cases kv : Dx.known v with
    | true =>
      have q := (mem_unknowns.mp (iso_unknown I (mem_unknowns.mpr ⟨hu, ku⟩))).2
      rw [e, of_known kv, kv] at q
      cases q
    | false =>
      have a := iso_at I (mem_unknowns.mpr ⟨hu, ku⟩)
      have b := iso_at I (mem_unknowns.mpr ⟨hv, kv⟩)
      have c := inj_of_nodup I.vals a b e
      injection c
theorem nodup_map_on {α β : Type} {f : α → β} : ∀ {l : List α}, l.Nodup → (∀ a ∈ l, ∀ b ∈ l, f a = f b → a = b) → (l.map f).Nodup
  | [], _, _ => List.nodup_nil
  | x :: r, hn, hi => by
    obtain ⟨h1, h2⟩ := List.nodup_cons.mp hn
    rw [List.map_cons]
    refine List.nodup_cons.mpr ⟨fun m => ?_, nodup_map_on h2 fun a ha b hb => hi a (List.mem_cons_of_mem _ ha) b (List.mem_cons_of_mem _ hb)⟩
    obtain ⟨y, hy, e⟩ := List.mem_map.mp m
    have := hi y (List.mem_cons_of_mem _ hy) x List.mem_cons_self e
    subst this
    exact h1 hy
theorem perm_len {α : Type} [DecidableEq α] {l k : List α} (h1 : l.Nodup) (h2 : k.Nodup) (h : ∀ x, x ∈ l ↔ x ∈ k) : l.length = k.length :=
  Nat.le_antisymm (nodup_sub_len h1 fun x hx => (h x).mp hx) (nodup_sub_len h2 fun x hx => (h x).mpr hx)
theorem iso_lens {l k : Facts} {m : Map} (hl : Srt l) (hk : Srt k) (I : Iso l k (Dx.unknowns l) m) (e : Dx.tidy (l.map m.fact) = k) : l.length = k.length ∧ (Dx.unknowns l).length = (Dx.unknowns k).length := by
  have mem : ∀ g, g ∈ k ↔ ∃ f ∈ l, m.fact f = g := fun g => by
    rw [← e, mem_tidy, List.mem_map]
  constructor
  · have nd : (l.map m.fact).Nodup := nodup_map_on (srt_nodup hl) fun a ha b hb q => by
      have q1 : (m.fact a).t = (m.fact b).t := congrArg Fact.t q
      have q2 : (m.fact a).a = (m.fact b).a := congrArg Fact.a q
      have q3 : (m.fact a).b = (m.fact b).b := congrArg Fact.b q
      exact fact_ext q1 (iso_inj I (mem_flat.mpr ⟨a, ha, .inl rfl⟩) (mem_flat.mpr ⟨b, hb, .inl rfl⟩) q2) (iso_inj I (mem_flat.mpr ⟨a, ha, .inr rfl⟩) (mem_flat.mpr ⟨b, hb, .inr rfl⟩) q3)
    have q := perm_len nd (srt_nodup hk) fun g => by rw [← e, mem_tidy]
    rw [List.length_map] at q
    exact q
  · have nd : ((Dx.unknowns l).map m.of).Nodup := nodup_map_on (srtN_nodup (srt_unknowns l)) fun a ha b hb q => iso_inj I (mem_unknowns.mp ha).1 (mem_unknowns.mp hb).1 q
    have q := perm_len nd (srtN_nodup (srt_unknowns k)) fun v => by
      constructor
      · intro hv
        obtain ⟨u, hu, e2⟩ := List.mem_map.mp hv
        rw [← e2]
        exact iso_unknown I hu
      · intro hv
        obtain ⟨hv1, hv2⟩ := mem_unknowns.mp hv
        obtain ⟨g, hg, hv3⟩ := mem_flat.mp hv1
        obtain ⟨f, hf, e2⟩ := (mem g).mp hg
        have back : ∀ w, w ∈ flat l → v = m.of w → v ∈ (Dx.unknowns l).map m.of := fun w hw e3 => by
          cases kw : Dx.known w with
          | true =>
            rw [e3, of_known kw, kw] at hv2
            cases hv2
          | false => exact List.mem_map.mpr ⟨w, mem_unknowns.mpr ⟨hw, kw⟩, e3.symm⟩
        rcases hv3 with e3 | e3
        · exact back f.a (mem_flat.mpr ⟨f, hf, .inl rfl⟩) (by rw [e3, ← e2]; rfl)
        · exact back f.b (mem_flat.mpr ⟨f, hf, .inr rfl⟩) (by rw [e3, ← e2]; rfl)
    rw [List.length_map] at q
    exact q
theorem alike_eq {l k : Facts} (hl : Srt l) (hk : Srt k) : Dx03.alike l k = Dx03.names l k (Dx.unknowns l) [] := by
  unfold Dx03.alike
  by_cases c : l.length = k.length ∧ (Dx.unknowns l).length = (Dx.unknowns k).length
  · rw [if_pos c]
  · rw [if_neg c]
    cases e : Dx03.names l k (Dx.unknowns l) [] with
    | none => rfl
    | some m =>
      have q := names_iso (Dx.unknowns l) [] m [] ⟨rfl, List.nodup_nil, fun v hv => by simp at hv⟩ e
      exact (c (iso_lens hl hk (by simpa using q.1) q.2)).elim

/-! ### what a found mapping is -/
theorem into_some {l k : Facts} : ∀ (r : List Nat) (m m' : Map), Dx.into l k r m = some m' → (∃ n : Map, m' = m ++ n ∧ n.map (·.1) = r ∧ ∀ v ∈ n.map (·.2), v ∈ Dx.values k) ∧ ∀ f ∈ l, m'.fact f ∈ k
  | [], m, m', e => by
    unfold Dx.into at e
    by_cases c : (l.all fun f => k.contains (m.fact f)) = true
    · rw [if_pos c] at e
      cases e
      exact ⟨⟨[], (List.append_nil _).symm, rfl, fun v hv => by simp at hv⟩, fun f hf => List.contains_iff_mem.mp (List.all_eq_true.mp c f hf)⟩
    · rw [if_neg c] at e
      cases e
  | u :: r, m, m', e => by
    rw [into_cons] at e
    obtain ⟨v, hv, e⟩ := List.exists_of_findSome?_eq_some e
    obtain ⟨⟨n, e1, e2, e3⟩, h2⟩ := into_some r _ m' e
    refine ⟨⟨(u, v) :: n, ?_, ?_, fun w hw => ?_⟩, h2⟩
    · rw [e1, List.append_assoc]
      rfl
    · rw [List.map_cons, e2]
    · rw [List.map_cons] at hw
      rcases List.mem_cons.mp hw with z | z
      · rw [z]
        exact hv
      · exact e3 w z
theorem map_some {l k : Facts} {m : Map} (e : Dx.map? l k = some m) : m.map (·.1) = Dx.unknowns l ∧ (∀ v ∈ m.map (·.2), v ∈ Dx.values k) ∧ ∀ f ∈ l, m.fact f ∈ k := by
  obtain ⟨⟨n, e1, e2, e3⟩, h⟩ := into_some _ _ _ e
  rw [List.nil_append] at e1
  subst e1
  exact ⟨e2, e3, h⟩

/-! ### cores -/
theorem mem_without {l : Facts} {f g : Fact} : g ∈ Dx03.without l f ↔ g ∈ l ∧ g ≠ f := by
  unfold Dx03.without
  rw [List.mem_filter]
  simp
theorem srt_without {l : Facts} (h : Srt l) (f : Fact) : Srt (Dx03.without l f) := List.Pairwise.filter _ h
theorem without_len {l : Facts} {f : Fact} (h : f ∈ l) : (Dx03.without l f).length < l.length := by
  unfold Dx03.without
  rcases Nat.lt_or_ge (l.filter fun g => g != f).length l.length with q | q
  · exact q
  · have e := List.filter_eq_self.mp (List.Sublist.eq_of_length (List.filter_sublist (l := l) (p := fun g => g != f)) (Nat.le_antisymm (List.length_filter_le _ _) q)) f h
    simp at e
theorem without_len_gone {l : Facts} {f : Fact} (hs : Srt l) (h : f ∈ l) : (Dx03.without l f).length + 1 = l.length := by
  have h1 := without_len h
  have h2 : l.length ≤ (f :: Dx03.without l f).length := nodup_sub_len (srt_nodup hs) fun x hx => by
    by_cases e : x = f
    · rw [e]
      exact List.mem_cons_self
    · exact List.mem_cons_of_mem _ (mem_without.mpr ⟨hx, e⟩)
  rw [List.length_cons] at h2
  omega
theorem shrink_some {l k : Facts} (e : Dx03.shrink l = some k) : ∃ f ∈ l, ∃ m, Dx.map? l (Dx03.without l f) = some m ∧ k = Dx.tidy (l.map m.fact) := by
  unfold Dx03.shrink at e
  obtain ⟨f, hf, e⟩ := List.exists_of_findSome?_eq_some e
  obtain ⟨m, hm, e⟩ := Option.map_eq_some_iff.mp e
  exact ⟨f, hf, m, hm, e.symm⟩
theorem shrink_sub {l k : Facts} (e : Dx03.shrink l = some k) : ∀ g ∈ k, g ∈ l := by
  obtain ⟨f, hf, m, hm, rfl⟩ := shrink_some e
  intro g hg
  obtain ⟨g', hg', rfl⟩ := List.mem_map.mp (mem_tidy.mp hg)
  exact (mem_without.mp ((map_some hm).2.2 g' hg')).1
theorem shrink_srt {l k : Facts} (e : Dx03.shrink l = some k) : Srt k := by
  obtain ⟨f, hf, m, hm, rfl⟩ := shrink_some e
  exact srt_tidy _
theorem shrink_len {l k : Facts} (e : Dx03.shrink l = some k) : k.length < l.length := by
  obtain ⟨f, hf, m, hm, rfl⟩ := shrink_some e
  refine Nat.lt_of_le_of_lt (nodup_sub_len (srt_nodup (srt_tidy _)) fun g hg => ?_) (without_len hf)
  obtain ⟨g', hg', rfl⟩ := List.mem_map.mp (mem_tidy.mp hg)
  exact (map_some hm).2.2 g' hg'
theorem least_none {l : Facts} (e : Dx03.shrink l = none) : ∀ n, Dx03.least n l = l
  | 0 => rfl
  | n + 1 => by
    show (match Dx03.shrink l with | none => l | some k => Dx03.least n k) = l
    rw [e]
theorem least_some {l k : Facts} (e : Dx03.shrink l = some k) (n : Nat) : Dx03.least (n + 1) l = Dx03.least n k := by
  show (match Dx03.shrink l with | none => l | some k => Dx03.least n k) = Dx03.least n k
  rw [e]
theorem least_more : ∀ (n i j : Nat) (l : Facts), l.length ≤ n → l.length < i → l.length < j → Dx03.least i l = Dx03.least j l
  | n, 0, _, _, _, h, _ => by omega
  | n, _ + 1, 0, _, _, _, h => by omega
  | n, i + 1, j + 1, l, hn, hi, hj => by
    cases e : Dx03.shrink l with
    | none => rw [least_none e, least_none e]
    | some k =>
      have hk := shrink_len e
      rw [least_some e, least_some e]
      cases n with
      | zero => omega
      | succ n => exact least_more n i j k (by omega) (by omega) (by omega)
theorem core_none {l : Facts} (e : Dx03.shrink l = none) : Dx03.core l = l := least_none e _
theorem core_some {l k : Facts} (e : Dx03.shrink l = some k) : Dx03.core l = Dx03.core k := by
  have hk := shrink_len e
  unfold Dx03.core
  rw [least_some e]
  exact least_more k.length _ _ k (Nat.le_refl _) (by omega) (by omega)
theorem core_ind {P : Facts → Prop} (step : ∀ l k, P l → Dx03.shrink l = some k → P k) : ∀ (n : Nat) (l : Facts), l.length ≤ n → P l → P (Dx03.core l)
  | n, l, hn, h => by
    cases e : Dx03.shrink l with
    | none =>
      rw [core_none e]
      exact h
    | some k =>
      have hk := shrink_len e
      rw [core_some e]
      cases n with
      | zero => omega
      | succ n => exact core_ind step n k (by omega) (step l k h e)
/-- what holds of a store's facts: strictly rising, at most 6, their numbers small -/
structure FOk (l : Facts) : Prop where
  srt : Srt l
  few : l.length ≤ 6
  tab : ∀ f ∈ l, f.t ≤ 1
  val : ∀ v ∈ flat l, v < 200
theorem FOk.nil : FOk [] := ⟨List.Pairwise.nil, by decide, fun _ h => by simp at h, fun _ h => by simp [flat] at h⟩
theorem FOk.sub {l k : Facts} (h : FOk l) (hs : Srt k) (sub : ∀ g ∈ k, g ∈ l) : FOk k :=
  ⟨hs, Nat.le_trans (nodup_sub_len (srt_nodup hs) sub) h.few, fun f hf => h.tab f (sub f hf), fun v hv => by
    obtain ⟨f, hf, e⟩ := mem_flat.mp hv
    exact h.val v (mem_flat.mpr ⟨f, sub f hf, e⟩)⟩
theorem FOk.without {l : Facts} (h : FOk l) (f : Fact) : FOk (Dx03.without l f) := h.sub (srt_without h.srt f) fun _ hg => (mem_without.mp hg).1
theorem FOk.shrink {l k : Facts} (h : FOk l) (e : Dx03.shrink l = some k) : FOk k := h.sub (shrink_srt e) (shrink_sub e)
theorem FOk.core {l : Facts} (h : FOk l) : FOk (Dx03.core l) := core_ind (P := FOk) (fun _ _ a b => a.shrink b) l.length l (Nat.le_refl _) h
theorem FOk.values {l : Facts} (h : FOk l) : ∀ v ∈ Dx.values l, v < 200 := fun v hv => h.val v (mem_values.mp hv)
theorem FOk.uns {l : Facts} (h : FOk l) : (Dx.unknowns l).length ≤ 12 := Nat.le_trans (unknowns_len l) (by have := h.few; omega)
theorem FOk.vals {l : Facts} (h : FOk l) : (Dx.values l).length ≤ 12 := Nat.le_trans (values_len l) (by have := h.few; omega)

/-! ### plain: the unknown values renamed -/
/-- the names as renamed gives them -/
def rnames (i : Nat) : List Nat → Map
  | [] => []
  | u :: r => (u, 100 + i) :: rnames (i + 1) r
theorem rnames_keys : ∀ (us : List Nat) (i : Nat), (rnames i us).map (·.1) = us
  | [], _ => rfl
  | u :: r, i => by
    show u :: (rnames (i + 1) r).map (·.1) = u :: r
    rw [rnames_keys r]
theorem rnames_vals : ∀ (us : List Nat) (i : Nat) (p : Nat × Nat), p ∈ rnames i us → p.2 < 100 + i + us.length
  | [], _, _, h => by simp [rnames] at h
  | u :: r, i, p, h => by
    rw [List.length_cons]
    rcases List.mem_cons.mp h with e | h
    · rw [e]
      show 100 + i < _
      omega
    · have := rnames_vals r (i + 1) p h
      omega
theorem rnames_snoc : ∀ (us : List Nat) (i u : Nat), rnames i (us ++ [u]) = rnames i us ++ [(u, 100 + (i + us.length))]
  | [], i, u => by simp [rnames]
  | v :: r, i, u => by
    show (v, 100 + i) :: rnames (i + 1) (r ++ [u]) = (v, 100 + i) :: (rnames (i + 1) r ++ [(u, 100 + (i + (v :: r).length))])
    rw [rnames_snoc r, List.length_cons]
    have e : i + 1 + r.length = i + (r.length + 1) := by omega
    rw [e]
theorem rnames_find : ∀ (us : List Nat) (i v : Nat), v ∈ us → ((rnames i us).find? fun p => p.1 == v) = some (v, 100 + (i + us.idxOf v))
  | [], _, _, h => by simp at h
  | u :: r, i, v, h => by
    show (((u, 100 + i) :: rnames (i + 1) r).find? fun p => p.1 == v) = _
    rw [List.find?_cons, List.idxOf_cons]
    by_cases e : u = v
    · subst e
      simp
    · have e' : (u == v) = false := beq_eq_false_iff_ne.mpr e
      have hv : v ∈ r := (List.mem_cons.mp h).resolve_left fun z => e z.symm
      simp only [e']
      rw [rnames_find r (i + 1) v hv]
      have e2 : i + 1 + r.idxOf v = i + (r.idxOf v + 1) := by omega
      rw [e2]
      rfl
theorem plain_eq (l : Facts) : Dx03.plain l = Dx.tidy (l.map (rnames 0 (Dx.unknowns l)).fact) := by
  unfold Dx03.plain
  refine congrArg Dx.tidy (List.map_congr_left fun f hf => ?_)
  have one : ∀ v, v ∈ flat l → (if Dx.known v = true then v else 100 + (Dx.unknowns l).idxOf v) = Map.of (rnames 0 (Dx.unknowns l)) v := fun v hv => by
    cases k : Dx.known v with
    | true => rw [of_known k, if_pos rfl]
    | false =>
      rw [of_unknown k, if_neg (by decide), rnames_find _ _ _ (mem_unknowns.mpr ⟨hv, k⟩)]
      simp
  show (⟨f.t, _, _⟩ : Fact) = ⟨f.t, _, _⟩
  rw [one f.a (mem_flat.mpr ⟨f, hf, .inl rfl⟩), one f.b (mem_flat.mpr ⟨f, hf, .inr rfl⟩)]
theorem of_bound {m : Map} {v B : Nat} (h1 : ∀ p ∈ m, p.2 < B) (h2 : v < B) : m.of v < B := by
  unfold Map.of
  split
  · exact h2
  · cases e : m.find? fun p => p.1 == v with
    | none => exact h2
    | some p => exact h1 p (List.mem_of_find?_eq_some e)
theorem tidy_map_len (l : Facts) (g : Fact → Fact) : (Dx.tidy (l.map g)).length ≤ l.length := by
  have h := nodup_sub_len (srt_nodup (srt_tidy (l.map g))) fun x hx => mem_tidy.mp hx
  rw [List.length_map] at h
  exact h
theorem FOk.mapped {l : Facts} {m : Map} (h : FOk l) (hm : ∀ p ∈ m, p.2 < 200) : FOk (Dx.tidy (l.map m.fact)) := by
  refine ⟨srt_tidy _, Nat.le_trans (tidy_map_len _ _) h.few, fun f hf => ?_, fun v hv => ?_⟩
  · obtain ⟨g, hg, rfl⟩ := List.mem_map.mp (mem_tidy.mp hf)
    exact h.tab g hg
  · obtain ⟨f, hf, e⟩ := mem_flat.mp hv
    obtain ⟨g, hg, rfl⟩ := List.mem_map.mp (mem_tidy.mp hf)
    rcases e with e | e
    · rw [e]
      exact of_bound hm (h.val _ (mem_flat.mpr ⟨g, hg, .inl rfl⟩))
    · rw [e]
      exact of_bound hm (h.val _ (mem_flat.mpr ⟨g, hg, .inr rfl⟩))
theorem rnames_small {l : Facts} (h : FOk l) : ∀ p ∈ rnames 0 (Dx.unknowns l), p.2 < 200 := fun p hp => by
  have := rnames_vals _ _ p hp
  have := h.uns
  omega
theorem FOk.plain {l : Facts} (h : FOk l) : FOk (Dx03.plain l) := by
  rw [plain_eq]
  exact h.mapped (rnames_small h)

/-! ### put: a fact more -/
theorem put_of {l k : Facts} {f : Fact} (hl : Srt l) (hk : Srt k) (m : ∀ g, g ∈ k ↔ g ∈ l ++ [f]) : k = Dx.put f l := srt_ext hk (srt_put hl) fun g => by
  rw [m g, mem_put, List.mem_append, List.mem_singleton]
  exact Or.comm
theorem FOk.put {l : Facts} {f : Fact} (h : FOk l) (hf : f.t ≤ 1) (ha : f.a < 200) (hb : f.b < 200) (hn : (Dx.put f l).length ≤ 6) : FOk (Dx.put f l) := by
  refine ⟨srt_put h.srt, hn, fun g hg => ?_, fun v hv => ?_⟩
  · rcases mem_put.mp hg with e | e
    · rw [e]
      exact hf
    · exact h.tab g e
  · obtain ⟨g, hg, e⟩ := mem_flat.mp hv
    rcases mem_put.mp hg with z | z
    · subst z
      rcases e with e | e
      · rw [e]
        exact ha
      · rw [e]
        exact hb
    · exact h.val v (mem_flat.mpr ⟨g, z, e⟩)

/-! ### searching a list in its order -/
theorem findSome_at {α β : Type} {g : α → Option β} : ∀ {l : List α} {i : Nat} {x : α} {y : β}, (∀ (j : Nat) z, j < i → l[j]? = some z → g z = none) → l[i]? = some x → g x = some y → l.findSome? g = some y
  | [], i, x, y, _, h, _ => by simp at h
  | a :: r, 0, x, y, _, h, e => by
    have q : a = x := Option.some.inj h
    subst q
    rw [List.findSome?_cons, e]
  | a :: r, i + 1, x, y, hn, h, e => by
    have h0 := hn 0 a (by omega) rfl
    rw [List.findSome?_cons, h0]
    exact findSome_at (l := r) (i := i) (x := x) (fun j z hj hz => hn (j + 1) z (by omega) hz) h e
theorem findSome_none {α β : Type} {g : α → Option β} {l : List α} (h : ∀ (j : Nat) z, j < l.length → l[j]? = some z → g z = none) : l.findSome? g = none := by
  rw [List.findSome?_eq_none_iff]
  intro x hx
  obtain ⟨j, hj, e⟩ := List.mem_iff_getElem.mp hx
  exact h j x hj (by rw [List.getElem?_eq_getElem hj, e])
theorem take_more {α : Type} : ∀ {l : List α} {i : Nat} {x : α}, l[i]? = some x → l.take (i + 1) = l.take i ++ [x]
  | [], i, x, h => by simp at h
  | a :: l, 0, x, h => by
    have e : a = x := Option.some.inj h
    subst e
    rfl
  | a :: l, i + 1, x, h => by
    have ih := take_more (l := l) (i := i) (x := x) h
    show a :: l.take (i + 1) = a :: l.take i ++ [x]
    rw [ih]
    rfl
end FC

set_option autoImplicit false
/-! FcTop: the list of calls: how it is read, what is due for it, that the stores stay good. Plain Lean. -/
namespace FC
open Dx (Fact Facts Map)

theorem whole_id (c : List (List Int)) : PyDx03.whole c = c := by
  unfold PyDx03.whole
  split <;> rfl
/-- an operation's number; its arguments -/
def num : Dx03.Call → Nat
  | .begins => 0
  | .fact _ _ _ _ => 1
  | .gone _ _ _ _ => 2
  | .facts _ => 3
  | .core _ => 4
  | .spare _ => 5
  | .map _ => 6
  | .same => 7
  | .alike => 8
  | .keep _ => 9
def nums : Dx03.Call → List Nat
  | .begins => []
  | .fact k t a b => [k, t, a, b]
  | .gone k t a b => [k, t, a, b]
  | .facts k => [k]
  | .core k => [k]
  | .spare k => [k]
  | .map k => [k]
  | .same => []
  | .alike => []
  | .keep k => [k]
def zInts (l : List Nat) : List Int := l.map fun (n : Nat) => (n : Int)
theorem ints_toNat : ∀ {ns : List Int}, (∀ z ∈ ns, 0 ≤ z) → zInts (ns.map Int.toNat) = ns
  | [], _ => rfl
  | z :: r, h => by
    have hz := h z List.mem_cons_self
    show ((z.toNat : Nat) : Int) :: zInts (r.map Int.toNat) = z :: r
    rw [ints_toNat fun y hy => h y (List.mem_cons_of_mem _ hy)]
    congr 1
    omega
/-- what sorted makes of a list of numbers that are all different -/
theorem ints_rising {ns : List Int} {ks : List Nat} (pm : ns.Perm (zInts ks)) (hs : ns.Pairwise (· ≤ ·)) (nd : ks.Nodup) : ∃ js, ns = zInts js ∧ SrtN js ∧ ∀ v, v ∈ js ↔ v ∈ ks := by
  have nn : ∀ z ∈ ns, 0 ≤ z := fun z hz => by
    obtain ⟨n, _, e⟩ := List.mem_map.mp (pm.mem_iff.mp hz)
    omega
  have e := ints_toNat nn
  have pm2 : (ns.map Int.toNat).Perm ks := by
    have q := pm.map Int.toNat
    have e2 : (zInts ks).map Int.toNat = ks := by
      unfold zInts
      rw [List.map_map]
      have : (Int.toNat ∘ fun (n : Nat) => (n : Int)) = id := by
        funext n
        simp
      rw [this, List.map_id]
    rw [e2] at q
    exact q
  have nd2 : (ns.map Int.toNat).Nodup := pm2.nodup_iff.mpr nd
  have le : (ns.map Int.toNat).Pairwise (· ≤ ·) := by
    rw [List.pairwise_map]
    exact List.Pairwise.imp (fun {a b} h => by omega) hs
  have lt : SrtN (ns.map Int.toNat) := List.Pairwise.imp₂ (fun {a b} h1 h2 => Nat.lt_of_le_of_ne h1 h2) le nd2
  exact ⟨_, e.symm, lt, fun v => pm2.mem_iff⟩
theorem ints_same {ns : List Int} {ks : List Nat} (pm : ns.Perm (zInts ks)) (hs : ns.Pairwise (· ≤ ·)) (h : SrtN ks) : ns = zInts ks := by
  obtain ⟨js, e, h1, h2⟩ := ints_rising pm hs (srtN_nodup h)
  rw [e, srtN_ext h1 h h2]
/-- what sorted makes of the values' list -/
theorem ints_sorted {ns : List Int} {ks : List Nat} {l : Facts} (pm : ns.Perm (zInts ks)) (hs : ns.Pairwise (· ≤ ·)) (nd : ks.Nodup) (m : ∀ v, v ∈ ks ↔ v ∈ flat l) : ns = zInts (Dx.values l) := by
  obtain ⟨js, e, h1, h2⟩ := ints_rising pm hs nd
  rw [e, values_of_srt h1 fun v => (h2 v).trans (m v)]
theorem flat_snoc (l : Facts) (f : Fact) : flat (l ++ [f]) = flat l ++ [f.a, f.b] := by
  unfold flat
  rw [List.flatMap_append]
  rfl
theorem nn {z : Int} (h : Dx03Neutral.whole32 z = true) : z = ((z.toNat : Nat) : Int) := by
  unfold Dx03Neutral.whole32 at h
  rw [Bool.and_eq_true, decide_eq_true_eq, decide_eq_true_eq] at h
  omega
theorem asked_call {p : Int} {args : List Int} (h : Dx03Neutral.asked1 [p :: args] = true) : ∃ c, Dx03Neutral.callOf [p :: args] = some c ∧ p = ((num c : Nat) : Int) ∧ args = zInts (nums c) := by
  unfold Dx03Neutral.asked1 at h
  split at h
  · rename_i e
    injection e with e _
    injection e with e1 e2
    subst e1 e2
    exact ⟨.begins, rfl, rfl, rfl⟩
  · rename_i k t a b e
    injection e with e _
    injection e with e1 e2
    subst e1 e2
    rw [Bool.and_eq_true, Bool.and_eq_true, Bool.and_eq_true] at h
    refine ⟨.fact k.toNat t.toNat a.toNat b.toNat, rfl, rfl, ?_⟩
    show [k, t, a, b] = [((k.toNat : Nat) : Int), ((t.toNat : Nat) : Int), ((a.toNat : Nat) : Int), ((b.toNat : Nat) : Int)]
    rw [← nn h.1, ← nn h.2.1, ← nn h.2.2.1, ← nn h.2.2.2]
  · rename_i k t a b e
    injection e with e _
    injection e with e1 e2
    subst e1 e2
    rw [Bool.and_eq_true, Bool.and_eq_true, Bool.and_eq_true] at h
    refine ⟨.gone k.toNat t.toNat a.toNat b.toNat, rfl, rfl, ?_⟩
    show [k, t, a, b] = [((k.toNat : Nat) : Int), ((t.toNat : Nat) : Int), ((a.toNat : Nat) : Int), ((b.toNat : Nat) : Int)]
    rw [← nn h.1, ← nn h.2.1, ← nn h.2.2.1, ← nn h.2.2.2]
  · rename_i k e
    injection e with e _
    injection e with e1 e2
    subst e1 e2
    refine ⟨.facts k.toNat, rfl, rfl, ?_⟩
    show [k] = [((k.toNat : Nat) : Int)]
    rw [← nn h]
  · rename_i k e
    injection e with e _
    injection e with e1 e2
    subst e1 e2
    refine ⟨.core k.toNat, rfl, rfl, ?_⟩
    show [k] = [((k.toNat : Nat) : Int)]
    rw [← nn h]
  · rename_i k e
    injection e with e _
    injection e with e1 e2
    subst e1 e2
    refine ⟨.spare k.toNat, rfl, rfl, ?_⟩
    show [k] = [((k.toNat : Nat) : Int)]
    rw [← nn h]
  · rename_i k e
    injection e with e _
    injection e with e1 e2
    subst e1 e2
    refine ⟨.map k.toNat, rfl, rfl, ?_⟩
    show [k] = [((k.toNat : Nat) : Int)]
    rw [← nn h]
  · rename_i e
    injection e with e _
    injection e with e1 e2
    subst e1 e2
    exact ⟨.same, rfl, rfl, rfl⟩
  · rename_i e
    injection e with e _
    injection e with e1 e2
    subst e1 e2
    exact ⟨.alike, rfl, rfl, rfl⟩
  · rename_i k e
    injection e with e _
    injection e with e1 e2
    subst e1 e2
    refine ⟨.keep k.toNat, rfl, rfl, ?_⟩
    show [k] = [((k.toNat : Nat) : Int)]
    rw [← nn h]
  · cases h
theorem shape_rows {p : Int} {n k : Nat} (h : PyDx03.shape p = some (n, k)) : k = 0 := by
  unfold PyDx03.shape at h
  repeat' split at h
  all_goals first | (cases h; rfl) | cases h
/-- one call more -/
theorem calls_cons {f : Nat} {p : Int} {r : List Int} {cs : List (List (List Int))} (h : PyFlat.calls PyDx03.shape f (p :: r) = some cs) :
    ∃ (f' n : Nat) (cs' : List (List (List Int))), n ≤ r.length ∧ cs = [p :: r.take n] :: cs' ∧ PyFlat.calls PyDx03.shape f' (r.drop n) = some cs' := by
  cases f with
  | zero => cases h
  | succ f =>
    have h1 : (match PyFlat.call PyDx03.shape (p :: r) with
      | none => none
      | some (c, t) => match PyFlat.calls PyDx03.shape f t with
        | none => none
        | some cs => some (c :: cs)) = some cs := h
    cases e : PyFlat.call PyDx03.shape (p :: r) with
    | none =>
      rw [e] at h1
      cases h1
    | some q =>
      obtain ⟨c, t⟩ := q
      rw [e] at h1
      have h2 : (match PyFlat.calls PyDx03.shape f t with
        | none => none
        | some cs => some (c :: cs)) = some cs := h1
      cases e2 : PyFlat.calls PyDx03.shape f t with
      | none =>
        rw [e2] at h2
        cases h2
      | some cs' =>
        rw [e2] at h2
        have h3 : c :: cs' = cs := Option.some.inj h2
        have e' : (match PyDx03.shape p with
          | none => none
          | some (n, k) => if r.length < n then none else match PyFlat.rows k (r.drop n) with
            | none => none
            | some (xs, t) => some ((p :: r.take n) :: xs, t)) = some (c, t) := e
        cases e3 : PyDx03.shape p with
        | none =>
          rw [e3] at e'
          cases e'
        | some nk =>
          obtain ⟨n, k⟩ := nk
          have hk := shape_rows e3
          subst hk
          rw [e3] at e'
          have e4 : (if r.length < n then none else some ([p :: r.take n], r.drop n)) = some (c, t) := e'
          by_cases hn : r.length < n
          · rw [if_pos hn] at e4
            cases e4
          · rw [if_neg hn] at e4
            have e5 := Option.some.inj e4
            injection e5 with e6 e7
            subst e6 e7
            exact ⟨f, n, cs', by omega, h3.symm, e2⟩
theorem calls_nil {f : Nat} {cs : List (List (List Int))} (h : PyFlat.calls PyDx03.shape f [] = some cs) : cs = [] := by
  cases f <;> exact (Option.some.inj h).symm
/-- what is due for calls from a state -/
def due (h : Dx03.House) (cs : List (List (List Int))) : List Int := PyFlat.told (PyFlat.played Dx03Neutral.step h cs)
theorem due_nil (h : Dx03.House) : due h [] = [] := rfl
theorem due_cons {h : Dx03.House} {p : Int} {args : List Int} {c : Dx03.Call} {cs : List (List (List Int))} (e : Dx03Neutral.callOf [p :: args] = some c) :
    due h ([p :: args] :: cs) = (((Dx03Neutral.out (Dx03.step h c).2).length : Nat) : Int) :: (Dx03Neutral.out (Dx03.step h c).2 ++ due (Dx03.step h c).1 cs) := by
  have s : Dx03Neutral.step h [p :: args] = ((Dx03.step h c).1, Dx03Neutral.out (Dx03.step h c).2) := by
    unfold Dx03Neutral.step
    rw [e]
  unfold due
  show (((Dx03Neutral.step h [p :: args]).2.length : Nat) : Int) :: ((Dx03Neutral.step h [p :: args]).2 ++ PyFlat.told (PyFlat.played Dx03Neutral.step (Dx03Neutral.step h [p :: args]).1 cs)) = _
  rw [s]
/-- what is asked of the list that is handed in -/
theorem asked_is {l : List Int} (h : PyDx03.answers_asked l = true) : ∃ cs, PyFlat.calls PyDx03.shape l.length l = some cs ∧ (∀ c ∈ cs, Dx03Neutral.asked1 c = true) ∧ PyDx03.answers l = due Dx03.init cs ∧ (PyDx03.answers l).length ≤ 10000000 := by
  unfold PyDx03.answers_asked at h
  cases e : PyFlat.calls PyDx03.shape l.length l with
  | none =>
    rw [e] at h
    cases h
  | some cs =>
    rw [e] at h
    have h' : (!cs.isEmpty && PyFlat.atMost 60 cs && PyInside.calls PyDx03.bound cs && Dx03Neutral.asked (cs.map PyDx03.whole) && PyFlat.short 10000000 (PyDx03.answers l)) = true := h
    have ew : cs.map PyDx03.whole = cs := by
      have e1 : PyDx03.whole = id := funext whole_id
      rw [e1, List.map_id]
    rw [ew] at h'
    rw [Bool.and_eq_true, Bool.and_eq_true] at h'
    obtain ⟨⟨_, h1⟩, h2⟩ := h'
    refine ⟨cs, rfl, ?_, ?_, ?_⟩
    · unfold Dx03Neutral.asked at h1
      rw [Bool.and_eq_true] at h1
      exact fun c hc => List.all_eq_true.mp h1.1 c hc
    · unfold PyDx03.answers PyDx03.calls
      rw [e]
      show PyFlat.told (PyFlat.played Dx03Neutral.step Dx03Neutral.start (cs.map PyDx03.whole)) = _
      rw [ew]
      rfl
    · unfold PyFlat.short at h2
      exact of_decide_eq_true h2

/-! ### the stores stay good -/
structure GoodH (h : Dx03.House) : Prop where
  one : FOk h.one
  two : FOk h.two
theorem goodH_init : GoodH Dx03.init := ⟨FOk.nil, FOk.nil⟩
theorem GoodH.get {h : Dx03.House} (g : GoodH h) (k : Nat) : FOk (h.get k) := by
  unfold Dx03.House.get
  split
  · exact g.one
  · exact g.two
theorem GoodH.set {h : Dx03.House} (g : GoodH h) (k : Nat) {l : Facts} (hl : FOk l) : GoodH (h.set k l) := by
  unfold Dx03.House.set
  split
  · exact ⟨hl, g.two⟩
  · exact ⟨g.one, hl⟩
theorem isValue_lt {v : Nat} (h : Dx03.isValue v = true) : v < 200 := by
  unfold Dx03.isValue Dx03.VALUE Dx.UNKNOWN at h
  rw [Bool.or_eq_true, Bool.and_eq_true, decide_eq_true_eq, decide_eq_true_eq, decide_eq_true_eq] at h
  omega

theorem step_good {h : Dx03.House} (g : GoodH h) : ∀ c, GoodH (Dx03.step h c).1
  | .begins => goodH_init
  | .fact k t a b => by
    show GoodH (if 1 < k then (h, Dx03.ok (-2)) else if 1 < t ∨ Dx03.isValue a = false ∨ Dx03.isValue b = false then (h, Dx03.ok (-1)) else if (h.get k).contains ⟨t, a, b⟩ = true then (h, Dx03.ok (-4)) else
      if Dx03.FACTS < (Dx.put ⟨t, a, b⟩ (h.get k)).length ∨ Dx03.UNKNOWNS < (Dx.unknowns (Dx.put ⟨t, a, b⟩ (h.get k))).length then (h, Dx03.ok (-7)) else (h.set k (Dx.put ⟨t, a, b⟩ (h.get k)), Dx03.ok ((Dx.put ⟨t, a, b⟩ (h.get k)).length : Nat))).1
    split
    · exact g
    · split
      · exact g
      · rename_i e
        split
        · exact g
        · split
          · exact g
          · rename_i e2
            unfold Dx03.FACTS at e2
            have ea : Dx03.isValue a = true := by
              cases c : Dx03.isValue a with
              | true => rfl
              | false => exact absurd (.inr (.inl c)) e
            have eb : Dx03.isValue b = true := by
              cases c : Dx03.isValue b with
              | true => rfl
              | false => exact absurd (.inr (.inr c)) e
            exact g.set k ((g.get k).put (by show t ≤ 1; omega) (isValue_lt ea) (isValue_lt eb) (by omega))
  | .gone k t a b => by
    show GoodH (if 1 < k then (h, Dx03.ok (-2)) else if (h.get k).contains ⟨t, a, b⟩ = false then (h, Dx03.ok (-3)) else (h.set k (Dx03.without (h.get k) ⟨t, a, b⟩), Dx03.ok ((Dx03.without (h.get k) ⟨t, a, b⟩).length : Nat))).1
    split
    · exact g
    · split
      · exact g
      · exact g.set k ((g.get k).without _)
  | .facts k => by
    show GoodH (if 1 < k then (h, Dx03.ok (-2)) else (h, Dx03.told (h.get k))).1
    split <;> exact g
  | .core k => by
    show GoodH (if 1 < k then (h, Dx03.ok (-2)) else (h, Dx03.told (Dx03.core (h.get k)))).1
    split <;> exact g
  | .spare k => by
    show GoodH (if 1 < k then (h, Dx03.ok (-2)) else (h, Dx03.told ((h.get k).filter (Dx03.spare (h.get k))))).1
    split <;> exact g
  | .map k => by
    show GoodH (if 1 < k then (h, Dx03.ok (-2)) else (h, Dx03.toldMap (Dx.map? (h.get k) (h.get (1 - k))))).1
    split <;> exact g
  | .same => g
  | .alike => g
  | .keep k => by
    show GoodH (if 1 < k then (h, Dx03.ok (-2)) else (h.set k (Dx03.plain (Dx03.core (h.get k))), Dx03.told (Dx03.plain (Dx03.core (h.get k))))).1
    split
    · exact g
    · exact g.set k (g.get k).core.plain
/-- how many numbers an operation has, by its own -/
def needs : List Nat := [0, 4, 4, 1, 1, 1, 1, 0, 0, 1]
theorem needs_at (c : Dx03.Call) : needs[num c]? = some (nums c).length := by
  cases c <;> rfl

/-! ### each operation's answer, unfolded -/
theorem out_ok (v : Int) : Dx03Neutral.out (Dx03.ok v) = [v] := rfl
def flat3 (l : Facts) : List Int := l.flatMap fun f => [(f.t : Int), (f.a : Int), (f.b : Int)]
theorem flat3_len (l : Facts) : (flat3 l).length = 3 * l.length := by
  induction l with
  | nil => rfl
  | cons f r ih =>
    show ((f.t : Int) :: (f.a : Int) :: (f.b : Int) :: flat3 r).length = _
    rw [List.length_cons, List.length_cons, List.length_cons, ih, List.length_cons]
    omega
theorem flat3_snoc (l : Facts) (f : Fact) : flat3 (l ++ [f]) = flat3 l ++ [(f.t : Int), (f.a : Int), (f.b : Int)] := by
  unfold flat3
  rw [List.flatMap_append]
  rfl
theorem out_told (l : Facts) : Dx03Neutral.out (Dx03.told l) = (l.length : Int) :: flat3 l := by
  unfold Dx03Neutral.out Dx03.told flat3
  rw [List.map_flatMap]
  rfl
def flat2 (m : Map) : List Int := m.flatMap fun p => [(p.1 : Int), (p.2 : Int)]
theorem flat2_snoc (m : Map) (u v : Nat) : flat2 (m ++ [(u, v)]) = flat2 m ++ [(u : Int), (v : Int)] := by
  unfold flat2
  rw [List.flatMap_append]
  rfl
theorem flat2_len (m : Map) : (flat2 m).length = 2 * m.length := by
  induction m with
  | nil => rfl
  | cons p r ih =>
    show ((p.1 : Int) :: (p.2 : Int) :: flat2 r).length = _
    rw [List.length_cons, List.length_cons, ih, List.length_cons]
    omega
def outMap (m : Option Map) : List Int := match m with
  | none => [0]
  | some m => 1 :: flat2 m
theorem out_map (m : Option Map) : Dx03Neutral.out (Dx03.toldMap m) = outMap m := by
  cases m with
  | none => rfl
  | some m =>
    show (1 : Int) :: (m.flatMap fun p => [p.1, p.2]).map (fun (n : Nat) => (n : Int)) = 1 :: flat2 m
    unfold flat2
    rw [List.map_flatMap]
    rfl
end FC

set_option Elab.async false
set_option linter.all false
set_option maxRecDepth 100000
set_option maxHeartbeats 2000000
/-! # Part 3. The heap's side: how facts, mappings and stores lie in it -/
namespace FCW
open PySem PySem.Spec PyProof.Rows L2
open Dx (Fact Facts Map)

/-- a fact as a tuple's items -/
def fV (f : Fact) : List V := [.int f.t, .int f.a, .int f.b]
/-- the tuples at qs are the facts l -/
abbrev FRefs (H : Hp) (qs : List Addr) (l : Facts) : Prop := Paired (fun q f => H q = some (.tup (fV f))) qs l
/-- at p: a list of the facts l -/
def FsAt (H : Hp) (p : Addr) (l : Facts) : Prop := ∃ qs : List Addr, H p = some (.lst (qs.map V.ref)) ∧ FRefs H qs l
def FAt (H : Hp) (q : Addr) (f : Fact) : Prop := H q = some (.tup (fV f))
theorem FRefs.same {H H' : Hp} {qs : List Addr} {l : Facts} (s : Same H H') (h : FRefs H qs l) : FRefs H' qs l := Paired.mapP h fun _ _ e => s _ _ e
theorem FsAt.same {H H' : Hp} {p : Addr} {l : Facts} (s : Same H H') (h : FsAt H p l) : FsAt H' p l := by
  obtain ⟨qs, h1, h2⟩ := h
  exact ⟨qs, s _ _ h1, h2.same s⟩
theorem FRefs.len {H : Hp} {qs : List Addr} {l : Facts} (h : FRefs H qs l) : qs.length = l.length := Paired.length h
theorem FRefs.at {H : Hp} : ∀ {qs : List Addr} {l : Facts} {i : Nat} {q : Addr}, FRefs H qs l → qs[i]? = some q → ∃ f, l[i]? = some f ∧ FAt H q f
  | _, _, _, _, .nil, e => by simp at e
  | _, _, 0, _, .cons r _, e => by
    simp at e
    subst e
    exact ⟨_, rfl, r⟩
  | _, _, i + 1, q, .cons _ t, e => by
    obtain ⟨f, h1, h2⟩ := FRefs.at (i := i) (q := q) t (by simpa using e)
    exact ⟨f, by simpa using h1, h2⟩
theorem FRefs.snoc {H : Hp} {qs : List Addr} {l : Facts} {q : Addr} {f : Fact} (h : FRefs H qs l) (e : FAt H q f) : FRefs H (qs ++ [q]) (l ++ [f]) := Paired.snoc h e
theorem fV_inj {f g : Fact} (e : fV f = fV g) : f = g := by
  unfold fV at e
  injection e with e1 e
  injection e with e2 e
  injection e with e3 _
  injection e1 with e1
  injection e2 with e2
  injection e3 with e3
  exact FC.fact_ext (by omega) (by omega) (by omega)
/-- a new object leaves all that was tracked -/
theorem same_new {H : Hp} {p : Addr} {o : HO} (h : H p = none) : Same H (upd H p o) := fun b u e => by
  rw [upd_ne (ne_of_none e h)]
  exact e
/-- an object that is no elder one is changed -/
theorem same_upd {H H' : Hp} {p : Addr} {o : HO} (h : H p = none) (s : Same H H') : Same H (upd H' p o) := fun b u e => by
  rw [upd_ne (ne_of_none e h)]
  exact s b u e
/-- the i-th item of a list's references -/
theorem refs_at {qs : List Addr} {i : Nat} {x : V} (h : (qs.map V.ref)[i]? = some x) : ∃ q, qs[i]? = some q ∧ x = .ref q := by
  rw [List.getElem?_map] at h
  cases e : qs[i]? with
  | none =>
    rw [e] at h
    cases h
  | some q =>
    rw [e] at h
    exact ⟨q, rfl, (Option.some.inj h).symm⟩
/-- ints -/
def iV (l : List Nat) : List V := l.map fun (n : Nat) => V.int (n : Int)
theorem iV_at {l : List Nat} {i : Nat} {x : V} (h : (iV l)[i]? = some x) : ∃ n : Nat, l[i]? = some n ∧ x = .int (n : Int) := by
  unfold iV at h
  rw [List.getElem?_map] at h
  cases e : l[i]? with
  | none =>
    rw [e] at h
    cases h
  | some q =>
    rw [e] at h
    exact ⟨q, rfl, (Option.some.inj h).symm⟩
theorem iV_len (l : List Nat) : (iV l).length = l.length := List.length_map _
theorem iV_ints (l : List Nat) : iV l = (FC.zInts l).map V.int := by
  unfold iV FC.zInts
  rw [List.map_map]
  rfl

/-! ### dicts whose values are True -/
/-- the keys by g of ks, in order; all values True -/
def kT {α κ : Type} (g : α → κ) (ks : List α) : List (κ × V) := ks.map fun a => (g a, V.bl true)
def addN {α : Type} [DecidableEq α] (ks : List α) (n : α) : List α := if n ∈ ks then ks else ks ++ [n]
theorem mem_addN {α : Type} [DecidableEq α] {ks : List α} {n x : α} : x ∈ addN ks n ↔ x ∈ ks ∨ x = n := by
  unfold addN
  split
  · rename_i h
    constructor
    · exact .inl
    · rintro (z | z)
      · exact z
      · rw [z]
        exact h
  · rw [List.mem_append, List.mem_singleton]
theorem nodup_addN {α : Type} [DecidableEq α] {ks : List α} {n : α} (h : ks.Nodup) : (addN ks n).Nodup := by
  unfold addN
  split
  · exact h
  · rename_i hn
    exact nd_snoc h hn
theorem len_addN {α : Type} [DecidableEq α] (ks : List α) (n : α) : (addN ks n).length ≤ ks.length + 1 := by
  unfold addN
  split
  · omega
  · simp
theorem kT_put {α κ : Type} [DecidableEq α] [DecidableEq κ] {g : α → κ} (hg : ∀ a b, g a = g b → a = b) (ks : List α) (n : α) : putK (kT g ks) (g n) (.bl true) = kT g (addN ks n) := by
  unfold putK addN
  have e : ((kT g ks).any fun kv => decide (kv.1 = g n)) = decide (n ∈ ks) := by
    unfold kT
    rw [List.any_map, Bool.eq_iff_iff, List.any_eq_true, decide_eq_true_eq]
    constructor
    · rintro ⟨a, ha, h⟩
      have h' : g a = g n := of_decide_eq_true h
      rw [← hg _ _ h']
      exact ha
    · intro h
      exact ⟨n, h, decide_eq_true rfl⟩
  rw [e]
  by_cases h : n ∈ ks
  · rw [if_pos (decide_eq_true h), if_pos h]
    unfold kT
    rw [List.map_map]
    refine List.map_congr_left fun a _ => ?_
    show (if g a = g n then (g a, V.bl true) else (g a, V.bl true)) = (g a, V.bl true)
    split <;> rfl
  · rw [if_neg (by rw [decide_eq_false h]; decide), if_neg h]
    unfold kT
    rw [List.map_append]
    rfl
theorem kT_len {α κ : Type} (g : α → κ) (ks : List α) : (kT g ks).length = ks.length := List.length_map _
def gN (n : Nat) : Key := .inl (n : Int)
theorem gN_inj (a b : Nat) (h : gN a = gN b) : a = b := by
  unfold gN at h
  injection h with h
  omega
theorem dput_kN {H : Hp} {d : Addr} {ks : List Nat} (n : Nat) (h : H d = some (.dK (kT gN ks))) (hl : ks.length ≤ 1000) : DPut H d (.int (n : Int)) (.bl true) (upd H d (.dK (kT gN (addN ks n)))) := by
  rw [← kT_put gN_inj]
  exact DPut.k (k := gN n) h (by rw [kT_len]; exact small1000 hl)
def gF (f : Fact) : List Key := [.inl (f.t : Int), .inl (f.a : Int), .inl (f.b : Int)]
theorem gF_inj (a b : Fact) (h : gF a = gF b) : a = b := by
  unfold gF at h
  injection h with h1 h
  injection h with h2 h
  injection h with h3 _
  injection h1 with h1
  injection h2 with h2
  injection h3 with h3
  exact FC.fact_ext (by omega) (by omega) (by omega)
theorem dput_kF {H : Hp} {d b : Addr} {ks : List Fact} (f : Fact) (h : H d = some (.dT (kT gF ks))) (hb : FAt H b f) (hl : ks.length ≤ 1000) : DPut H d (.ref b) (.bl true) (upd H d (.dT (kT gF (addN ks f)))) := by
  rw [← kT_put gF_inj]
  exact DPut.t (k := gF f) h hb (by rw [kT_len]; exact small1000 hl)
theorem gF_kV (f : Fact) : (gF f).map kV = fV f := rfl
theorem small_line {n : Nat} (h : n ≤ 10000000) : n ≤ sizeLine := by
  rw [sizeLine_eq]
  omega
theorem small_line' {n : Nat} (h : n ≤ 10000000) : n < sizeLine := by
  rw [sizeLine_eq]
  omega
theorem known_ge (n : Nat) : decide ((100 : Int) ≤ (n : Int)) = !Dx.known n := by
  unfold Dx.known Dx.UNKNOWN
  rw [Bool.eq_iff_iff, decide_eq_true_eq, Bool.not_eq_true', decide_eq_false_iff_not]
  omega
/-- the i-th statement of the program's top -/
def topS (i : Nat) : Stmt := PySem.Challenge.pw_factcores_s01_answers.main.body.getD i (.Pass ⟨0, 0, 0, 0⟩)
/-! ### facts and sets of facts as data, for ==, in -/
def fD (f : Fact) : PyData := .tuple [.int (f.t : Int), .int (f.a : Int), .int (f.b : Int)]
def lD (l : Facts) : PyData := .list (l.map fD)
theorem fD_lay (f : Fact) : (fD f).canLay0 = true := by simp [fD, PyData.canLay0, PyData.canLayAll0]
theorem fD_depth (f : Fact) : (fD f).depth = 1 := by simp [fD, PyData.depth, PyData.depthAll]
theorem fDs_lay : ∀ l : Facts, PyData.canLayAll0 (l.map fD) = true
  | [] => by simp [PyData.canLayAll0]
  | f :: r => by simp [PyData.canLayAll0, fD_lay f, fDs_lay r]
theorem fDs_depth : ∀ l : Facts, PyData.depthAll (l.map fD) ≤ 1
  | [] => by simp [PyData.depthAll]
  | f :: r => by
    have h1 := fDs_depth r
    have h2 := fD_depth f
    simp only [List.map_cons, PyData.depthAll]
    omega
theorem fD_shaped (f : Fact) : SeqAt.shaped (fD f) = true := by
  have h := fD_depth f
  show ((fD f).canLay0 && decide ((fD f).depth ≤ 64)) = true
  rw [fD_lay, h]
  decide
theorem lD_shaped (l : Facts) : SeqAt.shaped (lD l) = true := by
  have h1 := fDs_depth l
  have h2 : (lD l).depth ≤ 64 := by
    simp only [lD, PyData.depth]
    omega
  show ((lD l).canLay0 && decide ((lD l).depth ≤ 64)) = true
  rw [Bool.and_eq_true]
  exact ⟨by simp only [lD, PyData.canLay0]; exact fDs_lay l, decide_eq_true h2⟩
theorem fD_eqv (f g : Fact) : PyData.eqv (fD f) (fD g) = decide (f = g) := by
  have e : PyData.eqv (fD f) (fD g) = (((f.t : Int) == (g.t : Int)) && (((f.a : Int) == (g.a : Int)) && (((f.b : Int) == (g.b : Int)) && true))) := by simp only [fD, PyData.eqv, PyData.eqvAll]
  rw [e, Bool.eq_iff_iff, decide_eq_true_eq, Bool.and_eq_true, Bool.and_eq_true, Bool.and_eq_true, beq_iff_eq, beq_iff_eq, beq_iff_eq]
  constructor
  · rintro ⟨h1, h2, h3, _⟩
    exact FC.fact_ext (by omega) (by omega) (by omega)
  · rintro rfl
    exact ⟨rfl, rfl, rfl, rfl⟩
theorem fDs_eqv : ∀ (l k : Facts), PyData.eqvAll (l.map fD) (k.map fD) = decide (l = k)
  | [], [] => by simp [PyData.eqvAll]
  | [], _ :: _ => by simp [PyData.eqvAll]
  | _ :: _, [] => by simp [PyData.eqvAll]
  | f :: r, g :: s => by
    have e : PyData.eqvAll ((f :: r).map fD) ((g :: s).map fD) = (PyData.eqv (fD f) (fD g) && PyData.eqvAll (r.map fD) (s.map fD)) := by simp only [List.map_cons, PyData.eqvAll]
    rw [e, fD_eqv, fDs_eqv r s, Bool.eq_iff_iff, Bool.and_eq_true, decide_eq_true_eq, decide_eq_true_eq, decide_eq_true_eq, List.cons.injEq]
theorem lD_eqv (l k : Facts) : PyData.eqv (lD l) (lD k) = decide (l = k) := by
  have e : PyData.eqv (lD l) (lD k) = PyData.eqvAll (l.map fD) (k.map fD) := by simp only [lD, PyData.eqv]
  rw [e, fDs_eqv]
theorem lD_any (l : Facts) (f : Fact) : ((l.map fD).any fun z => PyData.eqv z (fD f)) = l.contains f := by
  rw [List.any_map, Bool.eq_iff_iff, List.any_eq_true, List.contains_iff_mem]
  constructor
  · rintro ⟨g, hg, e⟩
    have e' : PyData.eqv (fD g) (fD f) = true := e
    rw [fD_eqv, decide_eq_true_eq] at e'
    rw [← e']
    exact hg
  · intro h
    refine ⟨f, h, ?_⟩
    show PyData.eqv (fD f) (fD f) = true
    rw [fD_eqv, decide_eq_true_eq]
section
variable {K : PySem.W.Frag} {H : Hp}
theorem FAt.dp {q : Addr} {f : Fact} (h : FAt H q f) : Dp K H (.ref q) (fD f) := .tup (SqT.of h) (.cons (.int _) (.cons (.int _) (.cons (.int _) .nil)))
theorem FRefs.dp {qs : List Addr} {l : Facts} (h : FRefs H qs l) : DpAll K H (qs.map V.ref) (l.map fD) := by
  induction h with
  | nil => exact .nil
  | cons r _ ih => exact .cons (FAt.dp r) ih
theorem FsAt.dp {p : Addr} {l : Facts} (h : FsAt H p l) : Dp K H (.ref p) (lD l) := by
  obtain ⟨qs, h1, h2⟩ := h
  exact .lst (SqL.of h1) h2.dp
end

/-! ### sorted -/
theorem perm_paired {α β : Type} {R : α → β → Prop} {xs ys : List α} (h : ys.Perm xs) : ∀ {ks : List β}, Paired R xs ks → ∃ ls, ls.Perm ks ∧ Paired R ys ls := by
  induction h with
  | nil =>
    intro ks p
    cases p
    exact ⟨[], .nil, .nil⟩
  | cons x _ ih =>
    intro ks p
    cases p with
    | cons r t =>
      obtain ⟨ls, h1, h2⟩ := ih t
      exact ⟨_, h1.cons _, .cons r h2⟩
  | swap x y l =>
    intro ks p
    cases p with
    | cons r t => cases t with
      | cons r2 t2 => exact ⟨_, .swap _ _ _, .cons r2 (.cons r t2)⟩
  | trans _ _ ih1 ih2 =>
    intro ks p
    obtain ⟨ls, h1, h2⟩ := ih2 p
    obtain ⟨ms, h3, h4⟩ := ih1 h2
    exact ⟨ms, h3.trans h1, h4⟩
theorem paired_pairwise {α β : Type} {R : α → β → Prop} {S : α → α → Prop} {T : β → β → Prop} (h : ∀ a a' b b', R a b → R a' b' → S a a' → T b b') : ∀ {xs : List α} {ys : List β}, Paired R xs ys → xs.Pairwise S → ys.Pairwise T
  | _, _, .nil, _ => .nil
  | _, _, .cons r t, p => by
    obtain ⟨p1, p2⟩ := List.pairwise_cons.mp p
    refine List.pairwise_cons.mpr ⟨fun b' hb' => ?_, paired_pairwise h t p2⟩
    obtain ⟨a', ha', r'⟩ := paired_mem t hb'
    exact h _ _ _ _ r r' (p1 a' ha')
where
  paired_mem {α β : Type} {R : α → β → Prop} : ∀ {xs : List α} {ys : List β} {b : β}, Paired R xs ys → b ∈ ys → ∃ a ∈ xs, R a b
    | _, _, _, .nil, h => by simp at h
    | _, _, b, .cons r t, h => by
      rcases List.mem_cons.mp h with e | h
      · rw [e]
        exact ⟨_, List.mem_cons_self, r⟩
      · obtain ⟨a, ha, r'⟩ := paired_mem t h
        exact ⟨a, List.mem_cons_of_mem _ ha, r'⟩
def fI (f : Fact) : List Int := [(f.t : Int), (f.a : Int), (f.b : Int)]
theorem fI_V (f : Fact) : (fI f).map V.int = fV f := rfl
/-- its numbers are small -/
structure Small (f : Fact) : Prop where
  t : f.t < 200
  a : f.a < 200
  b : f.b < 200
theorem fI_bd {f : Fact} (h : Small f) : TS.Bd 200 (fI f) := fun m hm => by
  have h1 := h.t
  have h2 := h.a
  have h3 := h.b
  unfold fI at hm
  simp only [List.mem_cons, List.not_mem_nil, or_false] at hm
  omega
theorem fI_code (f : Fact) : TS.code 200 (fI f) = (f.t : Int) * 40000 + ((f.a : Int) * 200 + (f.b : Int)) := by
  unfold fI
  show (f.t : Int) * 200 ^ 2 + ((f.a : Int) * 200 ^ 1 + ((f.b : Int) * 200 ^ 0 + 0)) = _
  have e1 : (200 : Int) ^ 2 = 40000 := by decide
  have e2 : (200 : Int) ^ 1 = 200 := by decide
  have e3 : (200 : Int) ^ 0 = 1 := by decide
  rw [e1, e2, e3]
  omega
theorem code_lt {f g : Fact} (hf : Small f) (hg : Small g) (h : TS.code 200 (fI f) ≤ TS.code 200 (fI g)) (ne : f ≠ g) : FC.flt f g := by
  rw [fI_code, fI_code] at h
  have f1 := hf.t
  have f2 := hf.a
  have f3 := hf.b
  have g1 := hg.t
  have g2 := hg.a
  have g3 := hg.b
  rcases FC.flt_tri f g with z | z | z
  · exact z
  · exact absurd z ne
  · unfold FC.flt at z ⊢
    omega
/-- what sorted hands over of a list of references to facts that are all different -/
theorem sorted_facts {K : PySem.W.Frag} {H : Hp} {bs : List Addr} {ks : List Fact} {ys : List V} (hb : FRefs H bs ks) (nd : ks.Nodup) (sm : ∀ f ∈ ks, Small f) (pm : ys.Perm (bs.map V.ref))
    (hs : ys.Pairwise fun x y => ∀ n m, TupI K H x n → TupI K H y m → TS.code 200 n ≤ TS.code 200 m) : ∃ (cs : List Addr) (ls : Facts), ys = cs.map V.ref ∧ FRefs H cs ls ∧ FC.Srt ls ∧ ∀ f, f ∈ ls ↔ f ∈ ks := by
  have hb' : Paired (fun x f => ∃ q, x = V.ref q ∧ FAt H q f) (bs.map V.ref) ks := by
    clear nd sm pm hs
    induction hb with
    | nil => exact .nil
    | cons r _ ih => exact .cons ⟨_, rfl, r⟩ ih
  obtain ⟨ls, h1, h2⟩ := perm_paired pm hb'
  have cs : ∀ {ys : List V} {ls : Facts}, Paired (fun x f => ∃ q, x = V.ref q ∧ FAt H q f) ys ls → ∃ cs : List Addr, ys = cs.map V.ref ∧ FRefs H cs ls := by
    intro ys ls h
    induction h with
    | nil => exact ⟨[], rfl, .nil⟩
    | cons r _ ih =>
      obtain ⟨q, e, hq⟩ := r
      obtain ⟨cs, e2, h⟩ := ih
      exact ⟨q :: cs, by rw [e, e2]; rfl, .cons hq h⟩
  obtain ⟨c, e, hc⟩ := cs h2
  have p1 : ls.Pairwise fun f g => TS.code 200 (fI f) ≤ TS.code 200 (fI g) := paired_pairwise (fun a a' b b' r r' h => by
    obtain ⟨q, e, hq⟩ := r
    obtain ⟨q', e', hq'⟩ := r'
    exact h (fI b) (fI b') ⟨q, e, SqT.of hq⟩ ⟨q', e', SqT.of hq'⟩) h2 hs
  have nd2 : ls.Nodup := h1.nodup_iff.mpr nd
  refine ⟨c, ls, e, hc, ?_, fun f => h1.mem_iff⟩
  refine List.Pairwise.imp_of_mem (fun {a b} ha hb h => ?_) (List.Pairwise.and p1 nd2)
  exact code_lt (sm a (h1.mem_iff.mp ha)) (sm b (h1.mem_iff.mp hb)) h.1 h.2

/-! ### mappings as dicts -/
def mKV (m : Map) : List (Key × V) := m.map fun q => (gN q.1, V.int (q.2 : Int))
/-- its keys are unknown values -/
abbrev Unk (m : Map) : Prop := ∀ q ∈ m, Dx.known q.1 = false
theorem valV_mKV : ∀ (m : Map) (n : Nat), valV (mKV m) (gN n) = (m.find? fun q => q.1 == n).map fun q => V.int (q.2 : Int)
  | [], _ => rfl
  | q :: r, n => by
    show valV ((gN q.1, V.int (q.2 : Int)) :: mKV r) (gN n) = _
    rw [List.find?_cons]
    by_cases e : q.1 = n
    · rw [valV_pos (show (gN q.1, V.int (q.2 : Int)).1 = gN n by rw [e])]
      simp [e]
    · rw [valV_neg (fun z => e (gN_inj _ _ z)), valV_mKV r n]
      have e' : (q.1 == n) = false := beq_eq_false_iff_ne.mpr e
      rw [e']
theorem get_mKV {m : Map} (h : Unk m) (n : Nat) : (valV (mKV m) (gN n)).getD (.int (n : Int)) = .int ((m.of n : Nat) : Int) := by
  rw [valV_mKV]
  cases k : Dx.known n with
  | true =>
    have e : (m.find? fun q => q.1 == n) = none := by
      rw [List.find?_eq_none]
      intro q hq z
      have z' : q.1 = n := by simpa using z
      have := h q hq
      rw [z', k] at this
      cases this
    rw [e, FC.of_known k]
    rfl
  | false =>
    rw [FC.of_unknown k]
    cases m.find? fun q => q.1 == n <;> rfl
theorem has_mKV (m : Map) (n : Nat) : (valV (mKV m) (gN n)).isSome = FC.has m n := by
  rw [valV_mKV, Option.isSome_map, FC.find_isSome]
theorem mKV_len (m : Map) : (mKV m).length = m.length := List.length_map _

/-! ### a def of the text, by its name; a def that keeps a promise, by its name -/
structure Def (K : PySem.W.Frag) (mg : Str → Option Value) (x : Str) (st : Stmt) : Prop where
  ex : ∃ (f : Addr) (fd : FuncData), L2.Fun K x x st f fd ∧ mg x = some (.ref f)
structure Cal (P : Program) (w : World) (K : PySem.W.Frag) (mg : Str → Option Value) (base : Heap) (c : CXT) (k : Nat) (x : Str) (sp : Sp) : Prop where
  ex : ∃ (f : Addr) (fd : FuncData) (ps : List Str), FnOk P w K mg base c k f fd ps sp ∧ mg x = some (.ref f) ∧ PySem.W.keepIn K (.ref f) = true ∧ Binds K fd ps []
section
variable {P : Program} {w : World} {K : PySem.W.Frag} {mg : Str → Option Value} {base : Heap}
theorem Def.cal {c : CXT} {x : Str} {st : Stmt} {k : Nat} {sp : Sp} {ps : List Str} (D : Def K mg x st)
    (hb : ∀ (kV doc pm : Value) (an : Option Addr) (cdv ct : Value) (us : List Value), us.length = ps.length → bindArgs (PySem.W.fnOf x x (defArgs st) (defBody st) (defScope st) .none kV doc pm an cdv ct) ⟨us, []⟩ = pure (ps.zip us))
    (h : ∀ (f : Addr) (fd : FuncData), L2.Fun K x x st f fd → FnOk P w K mg base c k f fd ps sp) : Cal P w K mg base c k x sp := by
  obtain ⟨f, fd, F, m⟩ := D.ex
  exact ⟨f, fd, ps, h f fd F, m, F.kp, F.binds hb⟩
variable {X : Cx} {j k : Nat} {x : Str} {sp : Sp} {p pos : Pos} {e : Expr} {es : List Expr} {t : TA}
/-- a constant int of the module -/
theorem pe_gi {n : Int} (h : ∃ t, X.mg x = some (.int n t)) (hg : Gl X x) (hd : (x == ("__debug__" : Str)) = false := by decide) : PE X (.Name x pos) (tC (.int n)) := by
  obtain ⟨t, ht⟩ := h
  exact pe_glob (v := .int n) hg ht ⟨t, rfl⟩ hd
/-- f(e, ..), f a def that raises nothing -/
theorem pe_c (c : Cal X.prog X.w X.K X.mg X.base L2.CX0 k x sp) (hr : Room j X.A) (hk : k ≤ j) (hg : Gl X x) (ha : PA X (e :: es) t)
    (hdb : (x == ("__debug__" : Str)) = false := by decide) (he : starEach (e :: es) X.env = (false, eval e X.env) :: starEach es X.env := by rfl) (hpl : (backTo pos (starEach es X.env)).any (·.1) = false := by rfl) :
    PE X (.Call (.Name x p) (e :: es) [] pos) (tCall sp [] L2.E0 t) := by
  obtain ⟨f, fd, ps, F, hm, kp, b⟩ := c.ex
  exact pe_call F (hr.mono hk) hg hm kp b .nil L2.pass0 ha hdb he hpl
end
end FCW

/-! # Part 4. The module of sets, def by def -/
namespace FCW
open PySem PySem.Spec PyProof.Rows L2
open Dx (Fact Facts Map)
abbrev sIsUnknown : Stmt := topS 2
abbrev sValuesOf : Stmt := topS 3
abbrev sUnknownsOf : Stmt := topS 4
abbrev sWithout : Stmt := topS 5
abbrev sMappedValue : Stmt := topS 6
abbrev sMappedFact : Stmt := topS 7
abbrev sMapped : Stmt := topS 8
theorem scIsUnknown : FnScope ["value"] ["value"] (defScope sIsUnknown) := ⟨rfl, rfl, rfl, by decide +kernel, rfl, by decide +kernel, by decide +kernel⟩
def spIsUnknown : Sp := fun vs H Q _ => ∃ n : Nat, vs = [.int (n : Int)] ∧ Q (.bl (!Dx.known n)) H
section
variable {P : Program} {w : World} {K : PySem.W.Frag} {mg : Str → Option Value} {base : Heap}
theorem ok_is_unknown (D : Def K mg "is_unknown" sIsUnknown) (cF : ∃ t, mg "FIRST_UNKNOWN" = some (.int 100 t)) : Cal P w K mg base L2.CX0 1 "is_unknown" spIsUnknown := by
  refine D.cal (ps := ["value"]) (fun _ _ _ _ _ _ us hl => match us, hl with | [_], _ => rfl) fun f fd F => ?_
  refine F.ok scIsUnknown (fun vs H Q E h => ?_) (fun cdv A outer s H vs Q E hr h => ?_)
  · obtain ⟨n, rfl, _⟩ := h
    rfl
  · obtain ⟨n, rfl, q⟩ := h
    refine ⟨_, pss_one (ps_ret (pe_cmpR op_ge (pv 0) (pe_gi cF rfl) (nomark _))), ?_⟩
    refine ⟨_, rfl, _, _, rfl, rfl, ?_⟩
    show Q (.bl (decide ((100 : Int) ≤ (n : Int)))) H
    rw [known_ge]
    exact q
theorem scValuesOf : FnScope ["facts", "found", "table", "first", "second"] ["facts"] (defScope sValuesOf) := ⟨rfl, rfl, rfl, by decide +kernel, rfl, by decide +kernel, by decide +kernel⟩
def spValuesOf : Sp := fun vs H Q _ => ∃ (p : Addr) (l : Facts), vs = [.ref p] ∧ FsAt H p l ∧ l.length ≤ 30 ∧ ∀ (H' : Hp) (q : Addr), Same H H' → H' q = some (.lst (iV (Dx.values l))) → Q (.ref q) H'
theorem ok_values_of (D : Def K mg "values_of" sValuesOf) (mS : mg "sorted" = none) (mL : mg "list" = none) : Cal P w K mg base L2.CX0 1 "values_of" spValuesOf := by
  refine D.cal (ps := ["facts"]) (fun _ _ _ _ _ _ us hl => match us, hl with | [_], _ => rfl) fun f fd F => ?_
  refine F.ok scValuesOf (fun vs H Q E h => ?_) (fun cdv A outer s H vs Q E hr h => ?_)
  · obtain ⟨p, l, rfl, _⟩ := h
    rfl
  · obtain ⟨p, l, rfl, hl, h30, k⟩ := h
    have hu := hu_of hr
    refine ⟨_, pss_cons (ps_set (i := 1) scValuesOf.nd rfl (Or.inl rfl) pe_dnewK)
      (pss_cons (ps_for PassesOwn.never rfl (pi_list (pv 0)) (pg_tup rfl (pgs_cons (pg_name (i := 2) scValuesOf.nd rfl (Or.inl rfl)) (pgs_cons (pg_name (i := 3) scValuesOf.nd rfl (Or.inl rfl)) (pgs_cons (pg_name (i := 4) scValuesOf.nd rfl (Or.inl rfl)) pgs_nil))))
        (pss_cons (ps_dput hu (pv 1) (pv 3) pe_bl rfl) (pss_one (ps_dput hu (pv 1) (pv 4) pe_bl rfl))))
      (pss_one (ps_ret (pe_callB cr_sorted (by rfl) mS (by decide +kernel) (pa_cons (pe_callTy (call_list_dK rfl) (by rfl) mL (by decide +kernel) (pa_cons (pv 1) pa_nil)) pa_nil))))), ?_⟩
    obtain ⟨qs, hq, hf⟩ := hl
    intro d hd
    refine ⟨_, rfl, p, rfl, ⟨_, SqL.of (same_new hd _ _ hq)⟩, for_list (K := K) (a := p) (xs := qs.map V.ref) (fun i σ H' => ∃ (a b c : Option V) (ks : List Nat), σ = [some (.ref p), some (.ref d), a, b, c] ∧ Same H H' ∧ H' d = some (.dK (kT gN ks)) ∧
      ks.Nodup ∧ ks.length ≤ 2 * i ∧ ∀ v, v ∈ ks ↔ v ∈ FC.flat (l.take i)) ⟨none, none, none, [], rfl, same_new hd, upd_same, List.nodup_nil, Nat.zero_le _, fun v => by simp [FC.flat]⟩ (fun i σ H' _ ⟨_, _, _, _, _, s5, _⟩ => SqL.of (s5 _ _ hq)) ?_ ?_⟩
    · rintro i y σ H' hi ⟨a, b, c, ks, rfl, s5, hd5, nd, ln, mem⟩
      obtain ⟨q, hq1, rfl⟩ := refs_at hi
      obtain ⟨f, hf1, hf2⟩ := (hf.same s5).at hq1
      have hi30 : i < l.length := (List.getElem?_eq_some_iff.mp hf1).1
      have l1 := len_addN ks f.a
      have l2 := len_addN (addN ks f.a) f.b
      refine ⟨q, fV f, rfl, SqT.of hf2, rfl, _, _, rfl, _, _, rfl, _, _, rfl, rfl, ?_⟩
      refine ⟨_, rfl, _, rfl, d, _, rfl, dput_kN f.a hd5 (by omega), ?_⟩
      refine ⟨_, rfl, _, rfl, d, _, rfl, dput_kN f.b upd_same (by omega), ?_⟩
      refine ⟨_, _, _, addN (addN ks f.a) f.b, rfl, same_upd hd (same_upd hd s5), upd_same, nodup_addN (nodup_addN nd), by omega, fun v => ?_⟩
      rw [FC.take_more hf1, FC.flat_snoc, List.mem_append, mem_addN, mem_addN, mem v]
      simp [or_assoc]
    · rintro σ H' ⟨a, b, c, ks, rfl, s5, hd5, nd, ln, mem⟩
      rw [List.length_map, hf.len, List.take_length] at mem
      rw [List.length_map, hf.len] at ln
      refine ⟨_, rfl, d, _, rfl, hd5, fun q1 hq1 => ⟨q1, FC.zInts ks, rfl, SqL.of ?_, ?_, fun ns' p2 pm srt hp2 => ?_⟩⟩
      · rw [← iV_ints, upd_same]
        unfold kT iV
        rw [List.map_map]
        rfl
      · show (ks.map _).length < 64
        rw [List.length_map]
        omega
      · rw [FC.ints_sorted pm srt nd mem, ← iV_ints]
        exact k _ _ (s5.trans ((same_new hq1).trans (same_new hp2))) upd_same
theorem scUnknownsOf : FnScope ["facts", "value"] ["facts"] (defScope sUnknownsOf) := ⟨rfl, rfl, rfl, by decide +kernel, rfl, by decide +kernel, by decide +kernel⟩
def spUnknownsOf : Sp := fun vs H Q _ => ∃ (p : Addr) (l : Facts), vs = [.ref p] ∧ FsAt H p l ∧ l.length ≤ 30 ∧ ∀ (H' : Hp) (q : Addr), Same H H' → H' q = some (.lst (iV (Dx.unknowns l))) → Q (.ref q) H'
theorem ok_unknowns_of (D : Def K mg "unknowns_of" sUnknownsOf) (cI : Cal P w K mg base L2.CX0 1 "is_unknown" spIsUnknown) (cV : Cal P w K mg base L2.CX0 1 "values_of" spValuesOf) : Cal P w K mg base L2.CX0 2 "unknowns_of" spUnknownsOf := by
  refine D.cal (ps := ["facts"]) (fun _ _ _ _ _ _ us hl => match us, hl with | [_], _ => rfl) fun f fd F => ?_
  refine F.ok scUnknownsOf (fun vs H Q E h => ?_) (fun cdv A outer s H vs Q E hr h => ?_)
  · obtain ⟨p, l, rfl, _⟩ := h
    rfl
  · obtain ⟨p, l, rfl, hl, h30, k⟩ := h
    have hu := hu_of hr
    refine ⟨_, pss_one (ps_ret (pe_lc (own := [("value", 1)]) (g := gName 1) (by rfl) scUnknownsOf.nd (pi_list (pe_c cV hr (by decide) (by rfl) (pa_cons (pv 0) pa_nil)))
      (blkOk_by (own := [("value", 1)]) (N := ["facts", "value"]) (sc := defScope sUnknownsOf) (by decide +kernel)) (fun _ _ _ _ _ => pg_name (i := 1) scUnknownsOf.nd rfl (Or.inl rfl))
      (fun _ _ _ _ _ => pts_one (pt_val (pe_c cI hr (by decide) (by rfl) (pa_cons (pv 1) pa_nil)))) (fun _ _ _ _ _ => pv 1))), ?_⟩
    refine ⟨_, rfl, p, l, rfl, hl, h30, fun H1 q s1 hq => ?_⟩
    refine ⟨q, rfl, ⟨_, SqL.of hq⟩, fun D hD => ?_⟩
    refine lc_list (K := K) (a := q) (xs := iV (Dx.values l)) (fun i H' => Same H1 H' ∧ H' D = some (.lst (iV (((Dx.values l).take i).filter fun v => !Dx.known v)))) ⟨same_new hD, upd_same⟩ (fun i H' _ ⟨s5, _⟩ => SqL.of (s5 _ _ hq)) ?_ ?_
    · rintro i y H' hi ⟨s5, h5⟩
      obtain ⟨n, hn, rfl⟩ := iV_at hi
      have ht := FC.take_more hn
      refine ⟨rfl, _, rfl, n, rfl, _, rfl, ?_⟩
      have hlen : (iV (((Dx.values l).take i).filter fun v => !Dx.known v)).length ≤ 1000 := by
        have h1 := FC.values_len l
        have h2 := List.length_filter_le (fun v => !Dx.known v) ((Dx.values l).take i)
        have h3 := List.length_take_le i (Dx.values l)
        rw [iV_len]
        rw [List.length_take] at h2
        omega
      cases c : Dx.known n with
      | false =>
        refine ⟨_, rfl, _, h5, small1000 hlen, same_upd hD s5, ?_⟩
        rw [ht, List.filter_append, upd_same]
        have e : ([n].filter fun v => !Dx.known v) = [n] := by simp [c]
        rw [e]
        unfold iV
        rw [List.map_append]
        rfl
      | true =>
        refine ⟨s5, ?_⟩
        rw [ht, List.filter_append, h5]
        have e : ([n].filter fun v => !Dx.known v) = [] := by simp [c]
        rw [e, List.append_nil]
    · rintro H' ⟨s5, h5⟩
      rw [iV_len, List.take_length] at h5
      exact k _ _ (s1.trans s5) h5
end
end FCW

namespace FCW
open PySem PySem.Spec PyProof.Rows L2
open Dx (Fact Facts Map)
theorem scWithout : FnScope ["facts", "fact", "other"] ["facts", "fact"] (defScope sWithout) := ⟨rfl, rfl, rfl, by decide +kernel, rfl, by decide +kernel, by decide +kernel⟩
theorem scMappedValue : FnScope ["mapping", "value"] ["mapping", "value"] (defScope sMappedValue) := ⟨rfl, rfl, rfl, by decide +kernel, rfl, by decide +kernel, by decide +kernel⟩
theorem scMappedFact : FnScope ["mapping", "fact", "table", "first", "second"] ["mapping", "fact"] (defScope sMappedFact) := ⟨rfl, rfl, rfl, by decide +kernel, rfl, by decide +kernel, by decide +kernel⟩
theorem scMapped : FnScope ["mapping", "facts", "found", "fact"] ["mapping", "facts"] (defScope sMapped) := ⟨rfl, rfl, rfl, by decide +kernel, rfl, by decide +kernel, by decide +kernel⟩
def spWithout : Sp := fun vs H Q _ => ∃ (p q : Addr) (l : Facts) (f : Fact), vs = [.ref p, .ref q] ∧ FsAt H p l ∧ FAt H q f ∧ l.length ≤ 30 ∧ ∀ (H' : Hp) (r : Addr), H r = none → Same H H' → FsAt H' r (Dx03.without l f) → Q (.ref r) H'
def spMappedValue : Sp := fun vs H Q _ => ∃ (p : Addr) (m : Map) (n : Nat), vs = [.ref p, .int (n : Int)] ∧ H p = some (.dK (mKV m)) ∧ Unk m ∧ Q (.int ((m.of n : Nat) : Int)) H
def spMappedFact : Sp := fun vs H Q _ => ∃ (p q : Addr) (m : Map) (f : Fact), vs = [.ref p, .ref q] ∧ H p = some (.dK (mKV m)) ∧ Unk m ∧ FAt H q f ∧ ∀ (r : Addr), H r = none → Q (.ref r) (upd H r (.tup (fV (m.fact f))))
def spMapped : Sp := fun vs H Q _ => ∃ (p q : Addr) (m : Map) (l : Facts), vs = [.ref p, .ref q] ∧ H p = some (.dK (mKV m)) ∧ Unk m ∧ FsAt H q l ∧ l.length ≤ 30 ∧ (∀ f ∈ l, Small (m.fact f)) ∧
  ∀ (H' : Hp) (r : Addr), H r = none → Same H H' → FsAt H' r (Dx.tidy (l.map m.fact)) → Q (.ref r) H'
section
variable {P : Program} {w : World} {K : PySem.W.Frag} {mg : Str → Option Value} {base : Heap}
theorem ok_without (D : Def K mg "without" sWithout) : Cal P w K mg base L2.CX0 1 "without" spWithout := by
  refine D.cal (ps := ["facts", "fact"]) (fun _ _ _ _ _ _ us hl => match us, hl with | [_, _], _ => rfl) fun f fd F => ?_
  refine F.ok scWithout (fun vs H Q E h => ?_) (fun cdv A outer s H vs Q E hr h => ?_)
  · obtain ⟨p, q, l, f, rfl, _⟩ := h
    rfl
  · obtain ⟨p, q, l, g, rfl, hl, hg, h30, k⟩ := h
    have hu := hr.units
    refine ⟨_, pss_one (ps_ret (pe_lc (own := [("other", 2)]) (g := gName 2) (by rfl) scWithout.nd (pi_list (pv 0))
      (blkOk_by (own := [("other", 2)]) (N := ["facts", "fact", "other"]) (sc := defScope sWithout) (by decide +kernel)) (fun _ _ _ _ _ => pg_name (i := 2) scWithout.nd rfl (Or.inl rfl))
      (fun _ _ _ _ _ => pts_one (pt_cmpR (r := rNeD K) (show OpR _ (compareOp .NotEq) (rNeD K) from op_neD hu) (pv 2) (pv 1) (nomark _))) (fun _ _ _ _ _ => pv 2))), ?_⟩
    obtain ⟨qs, hq, hf⟩ := hl
    refine ⟨_, rfl, p, rfl, ⟨_, SqL.of hq⟩, fun D hD => ?_⟩
    refine lc_list (K := K) (a := p) (xs := qs.map V.ref) (fun i H' => Same H H' ∧ ∃ rs, H' D = some (.lst (rs.map V.ref)) ∧ FRefs H' rs (Dx03.without (l.take i) g)) ⟨same_new hD, [], upd_same, .nil⟩ (fun i H' _ ⟨s5, _⟩ => SqL.of (s5 _ _ hq)) ?_ ?_
    · rintro i y H' hi ⟨s5, rs, h5, hr5⟩
      obtain ⟨x, hx1, rfl⟩ := refs_at hi
      obtain ⟨f', hf1, hf2⟩ := (hf.same s5).at hx1
      have ht := FC.take_more hf1
      have hlen : (rs.map V.ref).length ≤ 1000 := by
        have h2 := List.length_filter_le (fun z => z != g) (l.take i)
        have h3 := hr5.len
        unfold Dx03.without at h3
        rw [List.length_take] at h2
        rw [List.length_map]
        omega
      refine ⟨rfl, _, rfl, _, rfl, fD f', fD g, hf2.dp, (show FAt H' q g from s5 _ _ hg).dp, fD_shaped _, fD_shaped _, _, rfl, ?_⟩
      have ew : Dx03.without (l.take (i + 1)) g = Dx03.without (l.take i) g ++ (if f' = g then [] else [f']) := by
        unfold Dx03.without
        rw [ht, List.filter_append]
        by_cases c : f' = g
        · simp [c]
        · simp [c]
      rw [ew, fD_eqv]
      by_cases c : f' = g
      · rw [decide_eq_true c, if_pos c, List.append_nil]
        exact ⟨s5, rs, h5, hr5⟩
      · rw [decide_eq_false c, if_neg c]
        refine ⟨_, rfl, _, h5, small1000 hlen, same_upd hD s5, rs ++ [x], ?_, ?_⟩
        · rw [upd_same, List.map_append]
          rfl
        · have nt : ∀ b ys, H' b = some (.tup ys) → upd H' D (.lst (rs.map V.ref ++ [V.ref x])) b = some (.tup ys) := fun b ys e => by
            rw [upd_ne (ne_of e h5 (fun z => nomatch z))]
            exact e
          exact FRefs.snoc (Paired.mapP hr5 fun _ _ e => nt _ _ e) (nt _ _ hf2)
    · rintro H' ⟨s5, rs, h5, hr5⟩
      rw [List.length_map, hf.len, List.take_length] at hr5
      exact k _ _ hD s5 ⟨rs, h5, hr5⟩
theorem ok_mapped_value (D : Def K mg "mapped_value" sMappedValue) : Cal P w K mg base L2.CX0 1 "mapped_value" spMappedValue := by
  refine D.cal (ps := ["mapping", "value"]) (fun _ _ _ _ _ _ us hl => match us, hl with | [_, _], _ => rfl) fun f fd F => ?_
  refine F.ok scMappedValue (fun vs H Q E h => ?_) (fun cdv A outer s H vs Q E hr h => ?_)
  · obtain ⟨p, m, n, rfl, _⟩ := h
    rfl
  · obtain ⟨p, m, n, rfl, hm, hk, k⟩ := h
    have hu := hu_of hr
    refine ⟨_, pss_one (ps_ret (pe_dget2 hu (pv 0) (pv 1) (pv 1) ⟨rfl, rfl, rfl, rfl⟩)), ?_⟩
    refine ⟨_, rfl, p, rfl, .inl ⟨_, .inl hm⟩, _, rfl, _, rfl, _, DGet.k (k := gN n) hm, ?_⟩
    rw [get_mKV hk]
    exact k
theorem ok_mapped_fact (D : Def K mg "mapped_fact" sMappedFact) (cV : Cal P w K mg base L2.CX0 1 "mapped_value" spMappedValue) : Cal P w K mg base L2.CX0 2 "mapped_fact" spMappedFact := by
  refine D.cal (ps := ["mapping", "fact"]) (fun _ _ _ _ _ _ us hl => match us, hl with | [_, _], _ => rfl) fun f fd F => ?_
  refine F.ok scMappedFact (fun vs H Q E h => ?_) (fun cdv A outer s H vs Q E hr h => ?_)
  · obtain ⟨p, q, m, f, rfl, _⟩ := h
    rfl
  · obtain ⟨p, q, m, f, rfl, hm, hk, hf, k⟩ := h
    refine ⟨_, pss_cons (ps_asg (pv 1) (pg_tup rfl (pgs_cons (pg_name (i := 2) scMappedFact.nd rfl (Or.inl rfl)) (pgs_cons (pg_name (i := 3) scMappedFact.nd rfl (Or.inl rfl)) (pgs_cons (pg_name (i := 4) scMappedFact.nd rfl (Or.inl rfl)) pgs_nil)))))
      (pss_one (ps_ret (pe_tup (pa_cons (pv 2) (pa_cons (pe_c cV hr (by decide) (by rfl) (pa_cons (pv 0) (pa_cons (pv 3) pa_nil))) (pa_cons (pe_c cV hr (by decide) (by rfl) (pa_cons (pv 0) (pa_cons (pv 4) pa_nil))) pa_nil)))))), ?_⟩
    refine ⟨_, rfl, q, fV f, rfl, SqT.of hf, rfl, _, _, rfl, _, _, rfl, _, _, rfl, rfl, ?_⟩
    refine ⟨_, rfl, _, rfl, _, rfl, p, m, f.a, rfl, hm, hk, _, rfl, _, rfl, p, m, f.b, rfl, hm, hk, (by show 3 ≤ sizeLine; decide), fun t ht => ?_⟩
    exact k t ht
theorem isKeys_refs {H : Hp} : ∀ {ks : List Fact} {bs : List Addr}, IsKeys H (kT gF ks) bs → FRefs H bs ks
  | [], _, h => by
    unfold IsKeys kT at h
    cases h
    exact .nil
  | f :: r, _, h => by
    unfold IsKeys kT at h
    cases h with
    | cons e t => exact .cons e (isKeys_refs t)
theorem ok_mapped (D : Def K mg "mapped" sMapped) (cF : Cal P w K mg base L2.CX0 2 "mapped_fact" spMappedFact) (mS : mg "sorted" = none) (mL : mg "list" = none) : Cal P w K mg base L2.CX0 3 "mapped" spMapped := by
  refine D.cal (ps := ["mapping", "facts"]) (fun _ _ _ _ _ _ us hl => match us, hl with | [_, _], _ => rfl) fun f fd F => ?_
  refine F.ok scMapped (fun vs H Q E h => ?_) (fun cdv A outer s H vs Q E hr h => ?_)
  · obtain ⟨p, q, m, l, rfl, _⟩ := h
    rfl
  · obtain ⟨p, q, m, l, rfl, hm, hk, hl, h30, hsm, k⟩ := h
    have hu := hu_of hr
    refine ⟨_, pss_cons (ps_set (i := 2) scMapped.nd rfl (Or.inl rfl) pe_dnewT)
      (pss_cons (ps_for PassesOwn.never rfl (pi_list (pv 1)) (pg_name (i := 3) scMapped.nd rfl (Or.inl rfl))
        (pss_one (ps_dput hu (pv 2) (pe_c cF hr (by decide) (by rfl) (pa_cons (pv 0) (pa_cons (pv 3) pa_nil))) pe_bl rfl)))
      (pss_one (ps_ret (pe_callB (cr_sortT (d := 3) (B := 200) (by decide)) (by rfl) mS (by decide +kernel) (pa_cons (pe_callTy (call_list_dT rfl) (by rfl) mL (by decide +kernel) (pa_cons (pv 2) pa_nil)) pa_nil))))), ?_⟩
    obtain ⟨qs, hq, hf⟩ := hl
    intro d hd
    refine ⟨_, rfl, q, rfl, ⟨_, SqL.of (same_new hd _ _ hq)⟩, for_list (K := K) (a := q) (xs := qs.map V.ref) (fun i σ H' => ∃ (a : Option V) (ks : List Fact), σ = [some (.ref p), some (.ref q), some (.ref d), a] ∧ Same H H' ∧ H' d = some (.dT (kT gF ks)) ∧
      ks.Nodup ∧ ks.length ≤ i ∧ ∀ v, v ∈ ks ↔ v ∈ (l.take i).map m.fact) ⟨none, [], rfl, same_new hd, upd_same, List.nodup_nil, Nat.zero_le _, fun v => by simp⟩ (fun i σ H' _ ⟨_, _, _, s5, _⟩ => SqL.of (s5 _ _ hq)) ?_ ?_⟩
    · rintro i y σ H' hi ⟨a, ks, rfl, s5, hd5, nd, ln, mem⟩
      obtain ⟨x, hx1, rfl⟩ := refs_at hi
      obtain ⟨g, hf1, hf2⟩ := (hf.same s5).at hx1
      have hi30 : i < l.length := (List.getElem?_eq_some_iff.mp hf1).1
      have l1 := len_addN ks (m.fact g)
      refine ⟨_, rfl, _, rfl, _, rfl, p, x, m, g, rfl, s5 _ _ hm, hk, hf2, fun r hr5 => ?_⟩
      have hne : d ≠ r := ne_of_none hd5 hr5
      refine ⟨d, _, rfl, dput_kF (m.fact g) (by rw [upd_ne hne]; exact hd5) upd_same (by omega), ?_⟩
      refine ⟨_, addN ks (m.fact g), rfl, same_upd hd (s5.trans (same_new hr5)), upd_same, nodup_addN nd, by omega, fun v => ?_⟩
      rw [FC.take_more hf1, List.map_append, List.mem_append, mem_addN, mem v]
      simp
    · rintro σ H' ⟨a, ks, rfl, s5, hd5, nd, ln, mem⟩
      rw [List.length_map, hf.len, List.take_length] at mem
      rw [List.length_map, hf.len] at ln
      refine ⟨_, rfl, d, _, rfl, .inl hd5, fun q1 bs hq1 hbs => ?_⟩
      have sq := same_new (o := .lst (bs.map V.ref)) hq1
      have hb : FRefs H' bs ks := isKeys_refs hbs
      have hb2 := hb.same sq
      refine ⟨q1, bs.map V.ref, rfl, SqL.of upd_same, ?_, fun x hx => ?_, fun ys p2 pm srt hp2 => ?_⟩
      · rw [List.length_map, hb.len]
        omega
      · obtain ⟨b, hb3, rfl⟩ := List.mem_map.mp hx
        obtain ⟨i, hi, e⟩ := List.mem_iff_getElem.mp hb3
        obtain ⟨g, hg1, hg2⟩ := hb2.at (i := i) (q := b) (by rw [List.getElem?_eq_getElem hi, e])
        obtain ⟨g0, hg0, eg⟩ := List.mem_map.mp ((mem g).mp (List.mem_of_getElem? hg1))
        exact ⟨fI g, ⟨b, rfl, SqT.of hg2⟩, rfl, fI_bd (by rw [← eg]; exact hsm g0 hg0)⟩
      · obtain ⟨cs, ls, e, hcs, hsrt, hmem⟩ := sorted_facts hb2 nd (fun g hg => by
          obtain ⟨g0, hg0, eg⟩ := List.mem_map.mp ((mem g).mp hg)
          rw [← eg]
          exact hsm g0 hg0) pm srt
        have s6 := same_new (o := .lst ys) hp2
        refine k _ _ ((s5.trans sq).free hp2) (s5.trans (sq.trans s6)) ⟨cs, by rw [upd_same, e], ?_⟩
        rw [← FC.tidy_of hsrt fun g => (hmem g).trans (mem g)]
        exact hcs.same s6
end
end FCW

/-! # Part 5. The module of mappings, def by def -/
namespace FCW
open PySem PySem.Spec PyProof.Rows L2
open Dx (Fact Facts Map)
abbrev sIsSettled : Stmt := topS 10
abbrev sMayGoOn : Stmt := topS 11
abbrev sWithValue : Stmt := topS 12
abbrev sFirstBehind : Stmt := topS 13
abbrev sFirstMapping : Stmt := topS 14
abbrev sDoesMap : Stmt := topS 15
abbrev sFirstAlike : Stmt := topS 16
abbrev sIsomorphism : Stmt := topS 17
theorem scIsSettled : FnScope ["mapping", "fact", "table", "first", "second"] ["mapping", "fact"] (defScope sIsSettled) := ⟨rfl, rfl, rfl, by decide +kernel, rfl, by decide +kernel, by decide +kernel⟩
theorem scMayGoOn : FnScope ["facts", "others", "mapping", "fact"] ["facts", "others", "mapping"] (defScope sMayGoOn) := ⟨rfl, rfl, rfl, by decide +kernel, rfl, by decide +kernel, by decide +kernel⟩
theorem scWithValue : FnScope ["mapping", "unknown", "value", "found"] ["mapping", "unknown", "value"] (defScope sWithValue) := ⟨rfl, rfl, rfl, by decide +kernel, rfl, by decide +kernel, by decide +kernel⟩
def spIsSettled : Sp := fun vs H Q _ => ∃ (p q : Addr) (m : Map) (f : Fact), vs = [.ref p, .ref q] ∧ H p = some (.dK (mKV m)) ∧ FAt H q f ∧ Q (.bl (FC.settled m f)) H
def spMayGoOn : Sp := fun vs H Q _ => ∃ (p q r : Addr) (l k : Facts) (m : Map), vs = [.ref p, .ref q, .ref r] ∧ FsAt H p l ∧ FsAt H q k ∧ H r = some (.dK (mKV m)) ∧ Unk m ∧ ∀ (H' : Hp), Same H H' → Q (.bl (FC.mayGo l k m)) H'
def spWithValue : Sp := fun vs H Q _ => ∃ (p : Addr) (m : Map) (u v : Nat), vs = [.ref p, .int (u : Int), .int (v : Int)] ∧ H p = some (.dK (mKV m)) ∧ FC.has m u = false ∧ m.length ≤ 100 ∧
  ∀ (H' : Hp) (r : Addr), Same H H' → H' r = some (.dK (mKV (m ++ [(u, v)]))) → Q (.ref r) H'
section
variable {X : Cx}
theorem hu65_of {A : Around} {k : Nat} (hr : Room k A) : A.units + 65 < cLine := by
  have := hr.un
  omega
/-- dict(d): a copy -/
theorem call_dictD : CallR X (.type "dict") (fun xs H Q => ∃ a kvs, xs = [V.ref a] ∧ H a = some (.dK kvs) ∧ ∀ p, H p = none → Q (.ref p) (upd H p (.dK kvs))) := by
  intro pins s σ H xs us Q I r h
  obtain ⟨a, kvs, rfl, ha, q⟩ := h
  rw [Vals.ref1 r]
  exact d_copyOf I (.inl ha) fun p s' hp I' => ⟨.ref p, _, I', rfl, q p hp⟩
end
section
variable {P : Program} {w : World} {K : PySem.W.Frag} {mg : Str → Option Value} {base : Heap}
theorem ok_is_settled (D : Def K mg "is_settled" sIsSettled) (cI : Cal P w K mg base L2.CX0 1 "is_unknown" spIsUnknown) : Cal P w K mg base L2.CX0 2 "is_settled" spIsSettled := by
  refine D.cal (ps := ["mapping", "fact"]) (fun _ _ _ _ _ _ us hl => match us, hl with | [_, _], _ => rfl) fun f fd F => ?_
  refine F.ok scIsSettled (fun vs H Q E h => ?_) (fun cdv A outer s H vs Q E hr h => ?_)
  · obtain ⟨p, q, m, f, rfl, _⟩ := h
    rfl
  · obtain ⟨p, q, m, f, rfl, hm, hf, k⟩ := h
    have hu := hu_of hr
    refine ⟨_, pss_cons (ps_asg (pv 1) (pg_tup rfl (pgs_cons (pg_name (i := 2) scIsSettled.nd rfl (Or.inl rfl)) (pgs_cons (pg_name (i := 3) scIsSettled.nd rfl (Or.inl rfl)) (pgs_cons (pg_name (i := 4) scIsSettled.nd rfl (Or.inl rfl)) pgs_nil)))))
      (pss_one (ps_ret (pe_and (pe_or (pe_not (pe_c cI hr (by decide) (by rfl) (pa_cons (pv 3) pa_nil))) (pe_one (pe_cmp (pc_din hu (pv 3) (pv 0)))))
        (pe_one (pe_or (pe_not (pe_c cI hr (by decide) (by rfl) (pa_cons (pv 4) pa_nil))) (pe_one (pe_cmp (pc_din hu (pv 4) (pv 0))))))))), ?_⟩
    refine ⟨_, rfl, q, fV f, rfl, SqT.of hf, rfl, _, _, rfl, _, _, rfl, _, _, rfl, rfl, ?_⟩
    have hA := has_mKV m f.a
    have hB := has_mKV m f.b
    refine ⟨_, rfl, f.a, rfl, _, rfl, _, rfl, ?_⟩
    unfold FC.settled at k
    cases ka : Dx.known f.a with
    | true =>
      rw [ka] at k
      refine ⟨_, rfl, _, rfl, f.b, rfl, _, rfl, _, rfl, ?_⟩
      cases kb : Dx.known f.b with
      | true =>
        rw [kb] at k
        exact k
      | false =>
        rw [kb] at k
        refine ⟨_, rfl, _, rfl, p, _, rfl, DGet.k (k := gN f.b) hm, ?_⟩
        rw [hB]
        exact k
    | false =>
      rw [ka] at k
      refine ⟨_, rfl, _, rfl, p, _, rfl, DGet.k (k := gN f.a) hm, ?_⟩
      rw [hA]
      refine ⟨_, rfl, ?_⟩
      cases ha : FC.has m f.a with
      | false =>
        rw [ha] at k
        exact k
      | true =>
        rw [ha] at k
        refine ⟨_, rfl, f.b, rfl, _, rfl, _, rfl, ?_⟩
        cases kb : Dx.known f.b with
        | true =>
          rw [kb] at k
          exact k
        | false =>
          rw [kb] at k
          refine ⟨_, rfl, _, rfl, p, _, rfl, DGet.k (k := gN f.b) hm, ?_⟩
          rw [hB]
          exact k
theorem ok_may_go_on (D : Def K mg "may_go_on" sMayGoOn) (cS : Cal P w K mg base L2.CX0 2 "is_settled" spIsSettled) (cF : Cal P w K mg base L2.CX0 2 "mapped_fact" spMappedFact) : Cal P w K mg base L2.CX0 3 "may_go_on" spMayGoOn := by
  refine D.cal (ps := ["facts", "others", "mapping"]) (fun _ _ _ _ _ _ us hl => match us, hl with | [_, _, _], _ => rfl) fun f fd F => ?_
  refine F.ok scMayGoOn (fun vs H Q E h => ?_) (fun cdv A outer s H vs Q E hr h => ?_)
  · obtain ⟨p, q, r, l, k, m, rfl, _⟩ := h
    rfl
  · obtain ⟨p, q, r, l, k, m, rfl, hl, hk, hm, hu, h⟩ := h
    have hu65 := hu65_of hr
    refine ⟨_, pss_cons (ps_for PassesOwn.never rfl (pi_list (pv 0)) (pg_name (i := 3) scMayGoOn.nd rfl (Or.inl rfl))
        (pss_one (ps_if (PW.pt (pw_and (pt_val (pe_c cS hr (by decide) (by rfl) (pa_cons (pv 2) (pa_cons (pv 3) pa_nil)))) (pw_and1 (pt_cmpR (op_notInD hu65) (pe_c cF hr (by decide) (by rfl) (pa_cons (pv 2) (pa_cons (pv 3) pa_nil))) (pv 1) (by rfl)))))
          (pss_one (ps_ret pe_bl)) pss_nil)))
      (pss_one (ps_ret pe_bl)), ?_⟩
    obtain ⟨qs, hq, hf⟩ := hl
    refine ⟨_, rfl, p, rfl, ⟨_, SqL.of hq⟩, for_list (K := K) (a := p) (xs := qs.map V.ref) (fun i σ H' => ∃ (a : Option V), σ = [some (.ref p), some (.ref q), some (.ref r), a] ∧ Same H H' ∧ FC.mayGo (l.take i) k m = true)
      ⟨none, rfl, Same.refl H, rfl⟩ (fun i σ H' _ ⟨_, _, s5, _⟩ => SqL.of (s5 _ _ hq)) ?_ ?_⟩
    · rintro i y σ H' hi ⟨a, rfl, s5, g⟩
      obtain ⟨x, hx1, rfl⟩ := refs_at hi
      obtain ⟨f', hf1, hf2⟩ := (hf.same s5).at hx1
      have ht := FC.take_more hf1
      have eg : FC.mayGo (l.take (i + 1)) k m = !(FC.settled m f' && !k.contains (m.fact f')) := by
        unfold FC.mayGo at g ⊢
        rw [ht, List.all_append, g]
        simp
      have bad : FC.settled m f' = true → k.contains (m.fact f') = false → FC.mayGo l k m = false := fun h1 h2 => FC.mayGo_false.mpr ⟨f', List.mem_of_getElem? hf1, h1, h2⟩
      refine ⟨_, rfl, _, rfl, r, x, m, f', rfl, s5 _ _ hm, hf2, _, rfl, ?_⟩
      cases st : FC.settled m f' with
      | false =>
        rw [st] at eg
        exact ⟨_, rfl, s5, eg⟩
      | true =>
        refine ⟨_, rfl, _, rfl, r, x, m, f', rfl, s5 _ _ hm, hu, hf2, fun t ht5 => ?_⟩
        have s6 := same_new (o := .tup (fV (m.fact f'))) ht5
        have hk6 := (hk.same (s5.trans s6))
        refine ⟨_, rfl, fD (m.fact f'), k.map fD, FAt.dp upd_same, hk6.dp, fD_shaped _, lD_shaped k, _, rfl, ?_⟩
        rw [lD_any]
        cases c : k.contains (m.fact f') with
        | false =>
          have h2 := h _ (s5.trans s6)
          rw [bad st c] at h2
          exact h2
        | true =>
          rw [st, c] at eg
          exact ⟨_, rfl, s5.trans s6, eg⟩
    · rintro σ H' ⟨a, rfl, s5, g⟩
      rw [List.length_map, hf.len, List.take_length] at g
      have h2 := h _ s5
      rw [g] at h2
      exact h2
theorem putK_mKV {m : Map} {u v : Nat} (h : FC.has m u = false) : putK (mKV m) (gN u) (.int (v : Int)) = mKV (m ++ [(u, v)]) := by
  have e : valV (mKV m) (gN u) = none := by
    have := has_mKV m u
    rw [h] at this
    exact Option.isSome_eq_false_iff.mp this |> Option.isNone_iff_eq_none.mp
  rw [putK_new _ e]
  unfold mKV
  rw [List.map_append]
  rfl
theorem ok_with_value (D : Def K mg "with_value" sWithValue) (mD : mg "dict" = none) : Cal P w K mg base L2.CX0 1 "with_value" spWithValue := by
  refine D.cal (ps := ["mapping", "unknown", "value"]) (fun _ _ _ _ _ _ us hl => match us, hl with | [_, _, _], _ => rfl) fun f fd F => ?_
  refine F.ok scWithValue (fun vs H Q E h => ?_) (fun cdv A outer s H vs Q E hr h => ?_)
  · obtain ⟨p, m, u, v, rfl, _⟩ := h
    rfl
  · obtain ⟨p, m, u, v, rfl, hm, hn, hl, k⟩ := h
    have hu := hu_of hr
    refine ⟨_, pss_cons (ps_set (i := 3) scWithValue.nd rfl (Or.inl rfl) (pe_callTy call_dictD (by rfl) mD (by decide +kernel) (pa_cons (pv 0) pa_nil)))
      (pss_cons (ps_dput hu (pv 3) (pv 1) (pv 2) rfl) (pss_one (ps_ret (pv 3)))), ?_⟩
    refine ⟨_, rfl, p, _, rfl, hm, fun d hd => ?_⟩
    refine ⟨_, rfl, _, rfl, _, rfl, d, _, rfl, DPut.k (k := gN u) upd_same (by rw [mKV_len]; exact small1000 (by omega)), ?_⟩
    refine ⟨_, rfl, ?_⟩
    rw [putK_mKV hn]
    exact k _ _ (same_upd hd (same_new hd)) upd_same
end
end FCW

namespace FCW
open PySem PySem.Spec PyProof.Rows L2
open Dx (Fact Facts Map)
theorem scFirstBehind : FnScope ["facts", "others", "unknowns", "mapping", "value", "found"] ["facts", "others", "unknowns", "mapping"] (defScope sFirstBehind) := ⟨rfl, rfl, rfl, by decide +kernel, rfl, by decide +kernel, by decide +kernel⟩
theorem scFirstMapping : FnScope ["facts", "others"] ["facts", "others"] (defScope sFirstMapping) := ⟨rfl, rfl, rfl, by decide +kernel, rfl, by decide +kernel, by decide +kernel⟩
theorem scDoesMap : FnScope ["facts", "others"] ["facts", "others"] (defScope sDoesMap) := ⟨rfl, rfl, rfl, by decide +kernel, rfl, by decide +kernel, by decide +kernel⟩
/-- a mapping handed back, or None -/
def MRes (H : Hp) (v : V) : Option Map → Prop
  | none => v = .non
  | some m => ∃ a, v = .ref a ∧ H a = some (.dK (mKV m))
/-- what a search has told so far of the unknown values of l: rest is to come -/
structure Told (l : Facts) (m : Map) (rest : List Nat) : Prop where
  keys : Dx.unknowns l = m.map (·.1) ++ rest
theorem Told.unk {l : Facts} {m : Map} {rest : List Nat} (T : Told l m rest) : Unk m := fun q hq => by
  have h : q.1 ∈ Dx.unknowns l := by
    rw [T.keys]
    exact List.mem_append_left _ (List.mem_map.mpr ⟨q, hq, rfl⟩)
  exact (FC.mem_unknowns.mp h).2
theorem Told.nd {l : Facts} {m : Map} {rest : List Nat} (T : Told l m rest) : (m.map (·.1) ++ rest).Nodup := by
  rw [← T.keys]
  exact FC.srtN_nodup (FC.srt_unknowns l)
theorem Told.len {l : Facts} {m : Map} {rest : List Nat} (T : Told l m rest) : (Dx.unknowns l).length = m.length + rest.length := by
  rw [T.keys, List.length_append, List.length_map]
theorem Told.has {l : Facts} {m : Map} {u : Nat} {rest : List Nat} (T : Told l m (u :: rest)) : FC.has m u = false := by
  cases c : FC.has m u with
  | false => rfl
  | true => exact ((List.nodup_append.mp T.nd).2.2 u (FC.has_iff.mp c) u List.mem_cons_self rfl).elim
theorem Told.next {l : Facts} {m : Map} {u : Nat} {rest : List Nat} (T : Told l m (u :: rest)) (v : Nat) : Told l (m ++ [(u, v)]) rest := by
  refine ⟨?_⟩
  rw [T.keys, List.map_append, List.append_assoc]
  rfl
theorem Told.total {l : Facts} {m : Map} (T : Told l m []) : FC.Total l m := fun v hv => by
  have k := T.keys
  rw [List.append_nil] at k
  rw [k] at hv
  exact FC.has_iff.mpr hv
theorem Told.at {l : Facts} {m : Map} {u : Nat} {rest : List Nat} (T : Told l m (u :: rest)) : (Dx.unknowns l)[m.length]? = some u := by
  rw [T.keys, List.getElem?_append_right (by rw [List.length_map]; exact Nat.le_refl _), List.length_map, Nat.sub_self]
  rfl
theorem Told.start (l : Facts) : Told l [] (Dx.unknowns l) := ⟨rfl⟩
theorem iV_get {l : List Nat} {i n : Nat} (h : l[i]? = some n) : (iV l)[i]? = some (.int (n : Int)) := by
  unfold iV
  rw [List.getElem?_map, h]
  rfl
def spFirstBehind (n : Nat) : Sp := fun vs H Q _ => ∃ (p q r s : Addr) (l k : Facts) (m : Map) (rest : List Nat), vs = [.ref p, .ref q, .ref r, .ref s] ∧ FsAt H p l ∧ FsAt H q k ∧ H r = some (.lst (iV (Dx.unknowns l))) ∧ H s = some (.dK (mKV m)) ∧
  Told l m rest ∧ rest.length ≤ n ∧ l.length ≤ 6 ∧ k.length ≤ 6 ∧ ∀ (H' : Hp) (v : V), Same H H' → MRes H' v (Dx.into l k rest m) → Q v H'
section
variable {P : Program} {w : World} {K : PySem.W.Frag} {mg : Str → Option Value} {base : Heap}
theorem body_first_behind {n : Nat} (D : Def K mg "first_behind" sFirstBehind) (cG : Cal P w K mg base L2.CX0 3 "may_go_on" spMayGoOn) (cV : Cal P w K mg base L2.CX0 1 "values_of" spValuesOf)
    (cW : Cal P w K mg base L2.CX0 1 "with_value" spWithValue) (mLen : mg "len" = none)
    (cR : n = 0 ∨ ∃ n', n = n' + 1 ∧ Cal P w K mg base L2.CX0 (n' + 4) "first_behind" (spFirstBehind n')) : Cal P w K mg base L2.CX0 (n + 4) "first_behind" (spFirstBehind n) := by
  refine D.cal (ps := ["facts", "others", "unknowns", "mapping"]) (fun _ _ _ _ _ _ us hl => match us, hl with | [_, _, _, _], _ => rfl) fun f fd F => ?_
  refine F.ok scFirstBehind (fun vs H Q E h => ?_) (fun cdv A outer s H vs Q E hr h => ?_)
  · obtain ⟨p, q, r, s, l, k, m, rest, rfl, _⟩ := h
    rfl
  · obtain ⟨p, q, r, t, l, k, m, rest, rfl, hl, hk, hus, hm, T, hn, l6, k6, h⟩ := h
    have hr3 : Room 3 (A.deeper (envOfC "first_behind" (defScope sFirstBehind) s.heap.objs.size f cdv)) := hr.mono (by omega)
    cases g : FC.mayGo l k m with
    | false =>
      refine ⟨_, pss_cons (ps_if (pt_not (pt_val (pe_c cG hr3 (by decide) (by rfl) (pa_cons (pv 0) (pa_cons (pv 1) (pa_cons (pv 3) pa_nil)))))) (pss_one (ps_ret pe_non)) pss_nil) pss_never, ?_⟩
      refine ⟨_, rfl, _, rfl, _, rfl, p, q, t, l, k, m, rfl, hl, hk, hm, T.unk, fun H1 s1 => ⟨_, rfl, ?_⟩⟩
      rw [g]
      refine h H1 .non s1 ?_
      rw [FC.into_prune rest m g]
      rfl
    | true =>
      cases rest with
      | nil =>
        refine ⟨_, pss_cons (ps_if (pt_not (pt_val (pe_c cG hr3 (by decide) (by rfl) (pa_cons (pv 0) (pa_cons (pv 1) (pa_cons (pv 3) pa_nil)))))) (pss_one (ps_ret pe_non)) pss_nil)
          (pss_cons (ps_if (pt_cmpR op_eq (pe_callB call_lenD (by rfl) mLen PySem.boot_len (pa_cons (pv 3) pa_nil)) (pe_callB call_len_seq (by rfl) mLen PySem.boot_len (pa_cons (pv 2) pa_nil)) (nomark _)) (pss_one (ps_ret (pv 3))) pss_nil) pss_never), ?_⟩
        refine ⟨_, rfl, _, rfl, _, rfl, p, q, t, l, k, m, rfl, hl, hk, hm, T.unk, fun H1 s1 => ⟨_, rfl, ?_⟩⟩
        rw [g]
        refine ⟨_, rfl, t, _, rfl, s1 _ _ hm, _, rfl, r, _, rfl, .inl (SqL.of (s1 _ _ hus)), rfl, _, rfl, ?_⟩
        have e : decide (V.int ((mKV m).length : Int) = V.int ((iV (Dx.unknowns l)).length : Int)) = true := by
          rw [mKV_len, iV_len, T.len]
          simp
        rw [e]
        refine ⟨_, rfl, ?_⟩
        refine h H1 (.ref t) s1 ?_
        rw [FC.into_done T.total g]
        exact ⟨t, rfl, s1 _ _ hm⟩
      | cons u rest =>
        rcases cR with hz | ⟨n', rfl, cR⟩
        · rw [hz] at hn
          simp at hn
        have hn' : rest.length ≤ n' := by
          rw [List.length_cons] at hn
          omega
        refine ⟨_, pss_cons (ps_if (pt_not (pt_val (pe_c cG hr3 (by decide) (by rfl) (pa_cons (pv 0) (pa_cons (pv 1) (pa_cons (pv 3) pa_nil)))))) (pss_one (ps_ret pe_non)) pss_nil)
          (pss_cons (ps_if (pt_cmpR op_eq (pe_callB call_lenD (by rfl) mLen PySem.boot_len (pa_cons (pv 3) pa_nil)) (pe_callB call_len_seq (by rfl) mLen PySem.boot_len (pa_cons (pv 2) pa_nil)) (nomark _)) (pss_one (ps_ret (pv 3))) pss_nil)
          (pss_cons (ps_for PassesOwn.never rfl (pi_list (pe_c cV hr3 (by decide) (by rfl) (pa_cons (pv 1) pa_nil))) (pg_name (i := 4) scFirstBehind.nd rfl (Or.inl rfl))
            (pss_cons (ps_set (i := 5) scFirstBehind.nd rfl (Or.inl rfl) (pe_c cR hr (by omega) (by rfl) (pa_cons (pv 0) (pa_cons (pv 1) (pa_cons (pv 2) (pa_cons (pe_c cW hr3 (by decide) (by rfl) (pa_cons (pv 3) (pa_cons (pe_ix ix_list (pv 2) (pe_callB call_lenD (by rfl) mLen PySem.boot_len (pa_cons (pv 3) pa_nil)) (fun _ _ => rfl)) (pa_cons (pv 4) pa_nil)))) pa_nil))))))
              (pss_one (ps_if (pt_cmp (pc_notN (pv 5))) (pss_one (ps_ret (pv 5))) pss_nil))))
          (pss_one (ps_ret pe_non)))), ?_⟩
        refine ⟨_, rfl, _, rfl, _, rfl, p, q, t, l, k, m, rfl, hl, hk, hm, T.unk, fun H1 s1 => ⟨_, rfl, ?_⟩⟩
        rw [g]
        refine ⟨_, rfl, t, _, rfl, s1 _ _ hm, _, rfl, r, _, rfl, .inl (SqL.of (s1 _ _ hus)), rfl, _, rfl, ?_⟩
        have e : decide (V.int ((mKV m).length : Int) = V.int ((iV (Dx.unknowns l)).length : Int)) = false := by
          rw [mKV_len, iV_len, T.len, List.length_cons, decide_eq_false_iff_not]
          intro z
          injection z with z
          omega
        rw [e]
        refine ⟨_, rfl, q, k, rfl, hk.same s1, by omega, fun H2 q2 s2 hq2 => ?_⟩
        have hml : m.length ≤ 12 := by
          have h1 := FC.unknowns_len l
          have h2 := T.len
          omega
        refine ⟨q2, rfl, ⟨_, SqL.of hq2⟩, for_list (K := K) (a := q2) (xs := iV (Dx.values k)) (fun i σ H' => ∃ (a b : Option V), σ = [some (.ref p), some (.ref q), some (.ref r), some (.ref t), a, b] ∧ Same H2 H' ∧
          ∀ (j : Nat) v, j < i → (Dx.values k)[j]? = some v → Dx.into l k rest (m ++ [(u, v)]) = none)
          ⟨none, none, rfl, Same.refl _, fun j v hj => absurd hj (Nat.not_lt_zero j)⟩ (fun i σ H' _ ⟨_, _, _, s5, _⟩ => SqL.of (s5 _ _ hq2)) ?_ ?_⟩
        · rintro i y σ H' hi ⟨a, b, rfl, s5, no⟩
          obtain ⟨v, hv, rfl⟩ := iV_at hi
          have s6 : Same H H' := s1.trans (s2.trans s5)
          refine ⟨_, rfl, _, rfl, _, rfl, _, rfl, _, rfl, _, rfl, t, _, rfl, s6 _ _ hm, r, _, _, _, rfl, rfl, SqL.of (s6 _ _ hus), atI_nat (by rw [mKV_len]; exact iV_get T.at), _, rfl, t, m, u, v, rfl, s6 _ _ hm, T.has, by omega, fun H3 d s7 hd => ?_⟩
          have s8 := s6.trans s7
          refine ⟨p, q, r, d, l, k, _, rest, rfl, hl.same s8, hk.same s8, s8 _ _ hus, hd, T.next v, hn', l6, k6, fun H4 x s9 hx => ?_⟩
          have s10 := s5.trans (s7.trans s9)
          cases c : Dx.into l k rest (m ++ [(u, v)]) with
          | none =>
            rw [c] at hx
            obtain rfl : x = V.non := hx
            refine ⟨_, rfl, _, rfl, _, _, rfl, s10, fun j w hj hw => ?_⟩
            rcases Nat.lt_succ_iff_lt_or_eq.mp hj with z | z
            · exact no j w z hw
            · rw [z, hv] at hw
              rw [← Option.some.inj hw]
              exact c
          | some m' =>
            rw [c] at hx
            obtain ⟨a', rfl, ha'⟩ := hx
            refine ⟨_, rfl, _, rfl, _, rfl, ?_⟩
            refine h H4 (.ref a') (s1.trans (s2.trans s10)) ?_
            rw [FC.into_cons, FC.findSome_at (fun j w hj hw => no j w hj hw) hv c]
            exact ⟨a', rfl, ha'⟩
        · rintro σ H' ⟨a, b, rfl, s5, no⟩
          refine h H' .non (s1.trans (s2.trans s5)) ?_
          rw [FC.into_cons, FC.findSome_none fun j w hj hw => no j w (by rw [iV_len]; exact hj) hw]
          rfl
theorem ok_first_behind (D : Def K mg "first_behind" sFirstBehind) (cG : Cal P w K mg base L2.CX0 3 "may_go_on" spMayGoOn) (cV : Cal P w K mg base L2.CX0 1 "values_of" spValuesOf)
    (cW : Cal P w K mg base L2.CX0 1 "with_value" spWithValue) (mLen : mg "len" = none) : ∀ n, Cal P w K mg base L2.CX0 (n + 4) "first_behind" (spFirstBehind n)
  | 0 => body_first_behind D cG cV cW mLen (.inl rfl)
  | n + 1 => body_first_behind D cG cV cW mLen (.inr ⟨n, rfl, ok_first_behind D cG cV cW mLen n⟩)
end
end FCW

namespace FCW
open PySem PySem.Spec PyProof.Rows L2
open Dx (Fact Facts Map)
def spFirstMapping : Sp := fun vs H Q _ => ∃ (p q : Addr) (l k : Facts), vs = [.ref p, .ref q] ∧ FsAt H p l ∧ FsAt H q k ∧ l.length ≤ 6 ∧ k.length ≤ 6 ∧ ∀ (H' : Hp) (v : V), Same H H' → MRes H' v (Dx.map? l k) → Q v H'
def spDoesMap : Sp := fun vs H Q _ => ∃ (p q : Addr) (l k : Facts), vs = [.ref p, .ref q] ∧ FsAt H p l ∧ FsAt H q k ∧ l.length ≤ 6 ∧ k.length ≤ 6 ∧ ∀ (H' : Hp), Same H H' → Q (.bl (Dx.map? l k).isSome) H'
section
variable {P : Program} {w : World} {K : PySem.W.Frag} {mg : Str → Option Value} {base : Heap}
theorem ok_first_mapping (D : Def K mg "first_mapping" sFirstMapping) (cB : Cal P w K mg base L2.CX0 16 "first_behind" (spFirstBehind 12)) (cU : Cal P w K mg base L2.CX0 2 "unknowns_of" spUnknownsOf) : Cal P w K mg base L2.CX0 17 "first_mapping" spFirstMapping := by
  refine D.cal (ps := ["facts", "others"]) (fun _ _ _ _ _ _ us hl => match us, hl with | [_, _], _ => rfl) fun f fd F => ?_
  refine F.ok scFirstMapping (fun vs H Q E h => ?_) (fun cdv A outer s H vs Q E hr h => ?_)
  · obtain ⟨p, q, l, k, rfl, _⟩ := h
    rfl
  · obtain ⟨p, q, l, k, rfl, hl, hk, l6, k6, h⟩ := h
    refine ⟨_, pss_one (ps_ret (pe_c cB hr (by decide) (by rfl) (pa_cons (pv 0) (pa_cons (pv 1) (pa_cons (pe_c cU hr (by decide) (by rfl) (pa_cons (pv 0) pa_nil)) (pa_cons pe_dnewK pa_nil)))))), ?_⟩
    refine ⟨_, rfl, _, rfl, _, rfl, p, l, rfl, hl, by omega, fun H1 r s1 hr1 d hd => ?_⟩
    have s2 := s1.trans (same_new (o := .dK []) hd)
    refine ⟨p, q, r, d, l, k, [], Dx.unknowns l, rfl, hl.same s2, hk.same s2, same_new hd _ _ hr1, upd_same, Told.start l, ?_, l6, k6, fun H' v s3 hv => h H' v (s2.trans s3) hv⟩
    have := FC.unknowns_len l
    omega
theorem ok_does_map (D : Def K mg "does_map" sDoesMap) (cM : Cal P w K mg base L2.CX0 17 "first_mapping" spFirstMapping) : Cal P w K mg base L2.CX0 18 "does_map" spDoesMap := by
  refine D.cal (ps := ["facts", "others"]) (fun _ _ _ _ _ _ us hl => match us, hl with | [_, _], _ => rfl) fun f fd F => ?_
  refine F.ok scDoesMap (fun vs H Q E h => ?_) (fun cdv A outer s H vs Q E hr h => ?_)
  · obtain ⟨p, q, l, k, rfl, _⟩ := h
    rfl
  · obtain ⟨p, q, l, k, rfl, hl, hk, l6, k6, h⟩ := h
    refine ⟨_, pss_one (ps_ret (pe_cmp (pc_notN (pe_c cM hr (by decide) (by rfl) (pa_cons (pv 0) (pa_cons (pv 1) pa_nil)))))), ?_⟩
    refine ⟨_, rfl, _, rfl, p, q, l, k, rfl, hl, hk, l6, k6, fun H1 v s1 hv => ?_⟩
    have q := h H1 s1
    cases c : Dx.map? l k with
    | none =>
      rw [c] at hv q
      obtain rfl : v = V.non := hv
      exact q
    | some m =>
      rw [c] at hv q
      obtain ⟨a, rfl, _⟩ := hv
      exact q
end
end FCW

/-! # A rule that the layer lacks: `x not in d.values()`, x and the values whole numbers: the view has no __contains__ of its own, it is walked -/
namespace PySem
namespace FcVals
theorem plain_ci : plainId "proto.contains_iter" = true := by decide +kernel
theorem entry_ci : entryFor table "proto.contains_iter" = some Builtin.«proto.contains_iter» := entryFor_of_fast (by kernel_rfl)
theorem no_contains : typeLookup (.type "dict_values") "__contains__" = pure none := by rw [typeLookup_type, builtinLookup_eq_fast]; kernel_rfl
section
variable {prog : Program} {w : World} {A : Around} {E : Value → Shared → Prop} {R : Result → Shared → Prop} {I : Addr} {fp wr : List Addr} {n : Nat} {js : List Int} {P : Nat → Value → Prop} {St : Nat → Heap → Prop}
theorem ci_loop (W : Walks prog w A.in1 I fp wr n P St) (hn : js.length = n) (hP : ∀ i v, P i v → ∃ j t, js[i]? = some j ∧ v = Value.int j t) (x : Int) (u : Tok) : ∀ (k i : Nat) (s : Shared), n - i = k → i ≤ n → St i s.heap →
    (∀ h' tk, (∀ b o, b ∉ wr → s.heap.get? b = some o → h'.get? b = some o) → R (.ok (.ret (.bool ((js.drop i).any (· == x))))) { s with heap := h', toks := tk }) →
    codeAny (model prog w) A (.builtin "proto.contains_iter" ⟨[.ref I, .int x u], []⟩) R s := by
  intro k
  induction k with
  | zero =>
    intro i s hk hi hst hR
    have hin : i = n := by omega
    subst hin
    refine codeAny_builtin entry_ci ?_
    rw [Around.under_plainId plain_ci _]
    show wpAny _ A.in1 (pyNext (.ref I) >>= _) _ _ s
    refine wpAny_bind (W.done s _ _ hst fun h' tk hk' => ?_)
    refine wpAny_bind (wpAny_rule (wpAny_pure ?_))
    have := hR h' tk hk'
    rw [List.drop_of_length_le (by omega)] at this
    exact this
  | succ k ih =>
    intro i s hk hi hst hR
    have hlt : i < n := by omega
    refine codeAny_builtin entry_ci ?_
    rw [Around.under_plainId plain_ci _]
    show wpAny _ A.in1 (pyNext (.ref I) >>= _) _ _ s
    refine wpAny_bind (W.item i s _ _ hlt hst fun v h' tk hv hst' hk' => ?_)
    obtain ⟨j, t, hj, rfl⟩ := hP i v hv
    have hd : js.drop i = j :: js.drop (i + 1) := by
      obtain ⟨h1, h2⟩ := List.getElem?_eq_some_iff.mp hj
      rw [List.drop_eq_getElem_cons h1, h2]
    refine wpAny_bind (wpAny_eqBool_int ?_)
    cases hb : j == x with
    | false =>
      simp only [Bool.false_eq_true, if_false]
      refine wpAny_pure ⟨plainId_quiet plain_ci _, ih (i + 1) _ (by omega) hlt hst' fun h'' tk'' hk'' => ?_⟩
      have := hR h'' tk'' fun b o hbw e => hk'' b o hbw (hk' b o hbw e)
      rw [hd, List.any_cons, hb, Bool.false_or] at this
      exact this
    | true =>
      simp only [if_true]
      refine wpAny_bind (wpAny_rule (wpAny_pure ?_))
      have := hR h' tk hk'
      rw [hd, List.any_cons, hb, Bool.true_or] at this
      exact this
variable {s : Shared} {v : Addr}
theorem notIn_walk {x : Int} {u : Tok} {Q : Value → Shared → Prop} (hv : s.TypeIs (.ref v) "dict_values")
    (h : wpAny (model prog w) A (pyIter (.ref v)) (fun it s₂ => ∃ (I : Addr) (fp wr : List Addr) (n : Nat) (js : List Int) (P : Nat → Value → Prop) (St : Nat → Heap → Prop), it = .ref I ∧ Walks prog w A.in1 I fp wr n P St ∧ St 0 s₂.heap ∧ js.length = n ∧ (∀ i v, P i v → ∃ j t, js[i]? = some j ∧ v = Value.int j t) ∧
      ∀ h' tk, (∀ b o, b ∉ wr → s₂.heap.get? b = some o → h'.get? b = some o) → Q (.bool (!js.any (· == x))) { s₂ with heap := h', toks := tk }) (fun _ _ => False) s) :
    wpAny (model prog w) A (compareOp .NotIn (.int x u) (.ref v)) Q E s := by
  show wpAny _ _ (do return .bool (!(← contains (.ref v) (.int x u)))) Q E s
  refine wpAny_bind ?_
  unfold contains
  refine wpAny_holding ?_
  rw [stdlibNamesSay?_of_typeIs hv]
  refine wpAny_bind (wpAny_specialOf hv no_contains ?_)
  rw [if_neg (by decide)]
  refine wpAny_bind (wpAny_callSpecialUnlessNone?_none hv no_contains ?_)
  refine wpAny_bind (wpAny_rule ?_)
  refine wpAny_bind (wpAny_tryCatch (wpAny_mono h (fun it s₂ h₂ => ?_) fun _ _ z => False.elim z))
  obtain ⟨I, fp, wr, n, js, P, St, rfl, W, hst, hn, hP, hQ⟩ := h₂
  refine wpAny_bind (wpAny_runValue (ci_loop W hn hP x u n 0 s₂ rfl (Nat.zero_le _) hst fun h' tk hk => ?_))
  exact wpAny_pure (wpAny_pure (hQ h' tk hk))
end
end FcVals
end PySem
namespace FCW
open PySem PySem.Spec PyProof.Rows L2
/-- x not in d.values(): whole numbers -/
def tNotInVals (ta td : TE) : TE := fun σ H Q => ta σ H fun y H1 => td σ H1 fun x H2 => ∃ (a : Addr) (kvs : List (Key × V)) (n : Int) (js : List Int), y = V.int n ∧ x = V.ref a ∧ H2 a = some (.dK kvs) ∧ kvs.map (·.2) = js.map V.int ∧ Q (.bl (!js.any (· == n))) H2
section
variable {X : Cx} {a o : Expr} {apos mpos : Pos} {ta td : TE}
theorem pc_notin_vals (hc : X.calm = true) (ha : PE X a ta) (hd : PE X o td) (hbase : attributeBase o "values" X.env (eval o X.env) = eval o X.env := by rfl) (hline : (apos.endLine == mpos.line) = true := by rfl) :
    PC X .NotIn a (.Call (.Attribute o "values" apos) [] [] mpos) (tNotInVals ta td) := by
  refine ⟨fun pins s σ H Q I h => ?_⟩
  refine thn (ha.run pins s σ H _ I h) fun v s0 ⟨y, H0, I0, r0, q0⟩ => ?_
  refine wpAny_Call_method0_late hbase hline (thn (hd.run pins s0 σ H0 _ I0 q0) fun u s1 ⟨x, H1, I1, r1, q1⟩ => ?_)
  obtain ⟨a, kvs, n, js, ey, ex, ha, hv, q⟩ := q1
  subst ex ey
  obtain rfl : u = Value.ref a := r1
  obtain ⟨tk0, rfl⟩ := r0
  obtain ⟨_, hsys, vs, rel, dof⟩ := dk_of I1.hok ha
  obtain ⟨ep, dat⟩ := dof.dictAt
  have dat' := dat
  obtain ⟨ob, es, ho, ex, hdat, hko, hpr, hnd⟩ := dat'
  refine ⟨"dict", "dict.values", F.plainAttrs_dict, F.slot_dict_values, F.type_dict_values, ⟨ob, ho, ex.1⟩, fun b e => ?_, Calls.callWith_builtin rfl (PySem.evalArgs_none ?_)⟩
  · cases e
    exact ⟨ob, ho, ex.2.1⟩
  refine call_meetsIn F.slot_dict_values ⟨ob, ho, ex.1⟩ F.entry_dict_values (F.args_dict_values_1 _) (meets_dict_values (mixKind X.prog X.w) a hsys) ⟨⟨vs, dof⟩, ?_⟩
  have k1 : ∀ b u, s1.heap.get? b = some u → (s1.heap.push { cls := .type "dict_values", data := .fields #[.ref a] }).get? b = some u := fun b u e => Heap.get?_push_of_some _ e
  have dat1 : (s1.heap.push { cls := .type "dict_values", data := .fields #[.ref a] }).DictAt (mixKind X.prog X.w) a vs ep := dat.keep k1
  have hlv : js.length = vs.length := by
    have e1 := congrArg List.length hv
    rw [List.length_map, List.length_map] at e1
    rw [← e1]
    exact KV.length rel
  have hlt : a < s1.heap.objs.size := Heap.lt_size ho
  have hsz : (s1.heap.push { cls := .type "dict_values", data := .fields #[.ref a] }).objs.size = s1.heap.objs.size + 1 := Heap.size_push _ _
  refine FcVals.notIn_walk ⟨_, Heap.get?_push_size _ rfl, rfl⟩ (wpAny_pyIter_values (v := s1.heap.objs.size) (d := a) ⟨_, Heap.get?_push_size _ rfl, rfl, rfl⟩ dat1 ?_)
  refine ⟨_, _, _, _, js, _, _, rfl, Walks.dictValues (knd := mixKind X.prog X.w) (A := X.A.in1) (I1.ok.hd hc) (s1.heap.push { cls := .type "dict_values", data := .fields #[.ref a] }).objs.size a (by rw [hsz]; exact Nat.ne_of_lt (Nat.lt_succ_of_lt hlt)) vs ep,
    ⟨⟨_, Heap.get?_push_size _ rfl, rfl, rfl⟩, dat1.keep fun b u e => Heap.get?_push_of_some _ e⟩, hlv, fun i v ⟨k, hk⟩ => ?_, fun h' tk hk => ?_⟩
  · obtain ⟨x, h1, h2⟩ := KV.at' rel hk
    have e1 : (kvs.map (·.2))[i]? = some x := by rw [List.getElem?_map, h1] <;> rfl
    rw [hv, List.getElem?_map] at e1
    obtain ⟨j, hj, e2⟩ := Option.map_eq_some_iff.mp e1
    subst e2
    obtain ⟨t, e3⟩ := h2
    exact ⟨j, t, hj, e3⟩
  · refine ⟨.bl _, H1, I1.kept (t' := tk) fun b u e => hk b u (fun hmem => ?_) (Heap.get?_push_of_some _ (Heap.get?_push_of_some _ e)), rfl, q⟩
    have e1 : b = s1.heap.objs.size + 1 := by rw [← hsz]; exact List.mem_singleton.mp hmem
    have e2 := Heap.lt_size e
    rw [e1] at e2
    exact absurd e2 (Nat.not_lt.mpr (Nat.le_succ _))
end
end FCW

namespace FCW
open PySem PySem.Spec PyProof.Rows L2
open Dx (Fact Facts Map)
theorem scFirstAlike : FnScope ["facts", "others", "unknowns", "mapping", "value", "found"] ["facts", "others", "unknowns", "mapping"] (defScope sFirstAlike) := ⟨rfl, rfl, rfl, by decide +kernel, rfl, by decide +kernel, by decide +kernel⟩
theorem scIsomorphism : FnScope ["facts", "others"] ["facts", "others"] (defScope sIsomorphism) := ⟨rfl, rfl, rfl, by decide +kernel, rfl, by decide +kernel, by decide +kernel⟩
def spFirstAlike (n : Nat) : Sp := fun vs H Q _ => ∃ (p q r s : Addr) (l k : Facts) (m : Map) (rest : List Nat), vs = [.ref p, .ref q, .ref r, .ref s] ∧ FsAt H p l ∧ FsAt H q k ∧ H r = some (.lst (iV (Dx.unknowns l))) ∧ H s = some (.dK (mKV m)) ∧
  Told l m rest ∧ rest.length ≤ n ∧ FC.FOk l ∧ FC.FOk k ∧ (∀ z ∈ m, z.2 < 200) ∧ ∀ (H' : Hp) (v : V), Same H H' → MRes H' v (Dx03.names l k rest m) → Q v H'
def spIsomorphism : Sp := fun vs H Q _ => ∃ (p q : Addr) (l k : Facts), vs = [.ref p, .ref q] ∧ FsAt H p l ∧ FsAt H q k ∧ FC.FOk l ∧ FC.FOk k ∧ ∀ (H' : Hp) (v : V), Same H H' → MRes H' v (Dx03.alike l k) → Q v H'
theorem mKV_vals (m : Map) : (mKV m).map (·.2) = (FC.zInts (m.map (·.2))).map V.int := by
  unfold mKV FC.zInts
  rw [List.map_map, List.map_map, List.map_map]
  rfl
theorem any_vals (m : Map) (v : Nat) : (FC.zInts (m.map (·.2))).any (· == (v : Int)) = m.any fun z => z.2 == v := by
  unfold FC.zInts
  rw [List.any_map, List.any_map]
  refine congrArg (fun g => m.any g) (funext fun z => ?_)
  show ((z.2 : Int) == (v : Int)) = (z.2 == v)
  rw [Bool.eq_iff_iff, beq_iff_eq, beq_iff_eq]
  omega
theorem small_fact {l : Facts} {m : Map} (h : FC.FOk l) (hm : ∀ z ∈ m, z.2 < 200) : ∀ f ∈ l, Small (m.fact f) := fun f hf =>
  ⟨(by have := h.tab f hf; show f.t < 200; omega), FC.of_bound hm (h.val _ (FC.mem_flat.mpr ⟨f, hf, .inl rfl⟩)), FC.of_bound hm (h.val _ (FC.mem_flat.mpr ⟨f, hf, .inr rfl⟩))⟩
section
variable {P : Program} {w : World} {K : PySem.W.Frag} {mg : Str → Option Value} {base : Heap}
theorem body_first_alike {n : Nat} (D : Def K mg "first_alike" sFirstAlike) (cG : Cal P w K mg base L2.CX0 3 "may_go_on" spMayGoOn) (cU : Cal P w K mg base L2.CX0 2 "unknowns_of" spUnknownsOf)
    (cW : Cal P w K mg base L2.CX0 1 "with_value" spWithValue) (cM : Cal P w K mg base L2.CX0 3 "mapped" spMapped) (mLen : mg "len" = none)
    (cR : n = 0 ∨ ∃ n', n = n' + 1 ∧ Cal P w K mg base L2.CX0 (n' + 4) "first_alike" (spFirstAlike n')) : Cal P w K mg base L2.CX0 (n + 4) "first_alike" (spFirstAlike n) := by
  refine D.cal (ps := ["facts", "others", "unknowns", "mapping"]) (fun _ _ _ _ _ _ us hl => match us, hl with | [_, _, _, _], _ => rfl) fun f fd F => ?_
  refine F.ok scFirstAlike (fun vs H Q E h => ?_) (fun cdv A outer s H vs Q E hr h => ?_)
  · obtain ⟨p, q, r, s, l, k, m, rest, rfl, _⟩ := h
    rfl
  · obtain ⟨p, q, r, t, l, k, m, rest, rfl, hl, hk, hus, hm, T, hn, hL, hK, hb, h⟩ := h
    have l6 := hL.few
    have k6 := hK.few
    have hr3 : Room 3 (A.deeper (envOfC "first_alike" (defScope sFirstAlike) s.heap.objs.size f cdv)) := hr.mono (by omega)
    cases g : FC.mayGo l k m with
    | false =>
      refine ⟨_, pss_cons (ps_if (pt_not (pt_val (pe_c cG hr3 (by decide) (by rfl) (pa_cons (pv 0) (pa_cons (pv 1) (pa_cons (pv 3) pa_nil)))))) (pss_one (ps_ret pe_non)) pss_nil) pss_never, ?_⟩
      refine ⟨_, rfl, _, rfl, _, rfl, p, q, t, l, k, m, rfl, hl, hk, hm, T.unk, fun H1 s1 => ⟨_, rfl, ?_⟩⟩
      rw [g]
      refine h H1 .non s1 ?_
      rw [FC.names_prune rest m g]
      rfl
    | true =>
      cases rest with
      | nil =>
        refine ⟨_, pss_cons (ps_if (pt_not (pt_val (pe_c cG hr3 (by decide) (by rfl) (pa_cons (pv 0) (pa_cons (pv 1) (pa_cons (pv 3) pa_nil)))))) (pss_one (ps_ret pe_non)) pss_nil)
          (pss_cons (ps_if (pt_cmpR op_eq (pe_callB call_lenD (by rfl) mLen PySem.boot_len (pa_cons (pv 3) pa_nil)) (pe_callB call_len_seq (by rfl) mLen PySem.boot_len (pa_cons (pv 2) pa_nil)) (nomark _))
            (pss_one (ps_ret (pe_ifExp (pt_cmpR (op_eqD hr3.units) (pe_c cM hr3 (by decide) (by rfl) (pa_cons (pv 3) (pa_cons (pv 0) pa_nil))) (pv 1) (nomark _)) (pv 3) pe_non))) pss_nil) pss_never), ?_⟩
        refine ⟨_, rfl, _, rfl, _, rfl, p, q, t, l, k, m, rfl, hl, hk, hm, T.unk, fun H1 s1 => ⟨_, rfl, ?_⟩⟩
        rw [g]
        refine ⟨_, rfl, t, _, rfl, s1 _ _ hm, _, rfl, r, _, rfl, .inl (SqL.of (s1 _ _ hus)), rfl, _, rfl, ?_⟩
        have e : decide (V.int ((mKV m).length : Int) = V.int ((iV (Dx.unknowns l)).length : Int)) = true := by
          rw [mKV_len, iV_len, T.len]
          simp
        rw [e]
        refine ⟨_, rfl, _, rfl, t, p, m, l, rfl, s1 _ _ hm, T.unk, hl.same s1, by omega, small_fact hL hb, fun H2 d _ s2 hd => ?_⟩
        have s3 := s1.trans s2
        refine ⟨_, rfl, lD (Dx.tidy (l.map m.fact)), lD k, hd.dp, (hk.same s3).dp, lD_shaped _, lD_shaped _, _, rfl, ?_⟩
        rw [lD_eqv]
        have hx := h H2
        rw [FC.names_nil] at hx
        by_cases c : Dx.tidy (l.map m.fact) = k
        · rw [decide_eq_true c]
          rw [if_pos c] at hx
          exact ⟨_, rfl, hx (.ref t) s3 ⟨t, rfl, s3 _ _ hm⟩⟩
        · rw [decide_eq_false c]
          rw [if_neg c] at hx
          exact hx .non s3 rfl
      | cons u rest =>
        rcases cR with hz | ⟨n', rfl, cR⟩
        · rw [hz] at hn
          simp at hn
        have hn' : rest.length ≤ n' := by
          rw [List.length_cons] at hn
          omega
        refine ⟨_, pss_cons (ps_if (pt_not (pt_val (pe_c cG hr3 (by decide) (by rfl) (pa_cons (pv 0) (pa_cons (pv 1) (pa_cons (pv 3) pa_nil)))))) (pss_one (ps_ret pe_non)) pss_nil)
          (pss_cons (ps_if (pt_cmpR op_eq (pe_callB call_lenD (by rfl) mLen PySem.boot_len (pa_cons (pv 3) pa_nil)) (pe_callB call_len_seq (by rfl) mLen PySem.boot_len (pa_cons (pv 2) pa_nil)) (nomark _)) pss_never pss_nil)
          (pss_cons (ps_for PassesOwn.never rfl (pi_list (pe_c cU hr3 (by decide) (by rfl) (pa_cons (pv 1) pa_nil))) (pg_name (i := 4) scFirstAlike.nd rfl (Or.inl rfl))
            (pss_one (ps_if (pt_cmp (pc_notin_vals rfl (pv 4) (pv 3)))
              (pss_cons (ps_set (i := 5) scFirstAlike.nd rfl (Or.inl rfl) (pe_c cR hr (by omega) (by rfl) (pa_cons (pv 0) (pa_cons (pv 1) (pa_cons (pv 2) (pa_cons (pe_c cW hr3 (by decide) (by rfl) (pa_cons (pv 3) (pa_cons (pe_ix ix_list (pv 2) (pe_callB call_lenD (by rfl) mLen PySem.boot_len (pa_cons (pv 3) pa_nil)) (fun _ _ => rfl)) (pa_cons (pv 4) pa_nil)))) pa_nil))))))
                (pss_one (ps_if (pt_cmp (pc_notN (pv 5))) (pss_one (ps_ret (pv 5))) pss_nil))) pss_nil)))
          (pss_one (ps_ret pe_non)))), ?_⟩
        refine ⟨_, rfl, _, rfl, _, rfl, p, q, t, l, k, m, rfl, hl, hk, hm, T.unk, fun H1 s1 => ⟨_, rfl, ?_⟩⟩
        rw [g]
        refine ⟨_, rfl, t, _, rfl, s1 _ _ hm, _, rfl, r, _, rfl, .inl (SqL.of (s1 _ _ hus)), rfl, _, rfl, ?_⟩
        have e : decide (V.int ((mKV m).length : Int) = V.int ((iV (Dx.unknowns l)).length : Int)) = false := by
          rw [mKV_len, iV_len, T.len, List.length_cons, decide_eq_false_iff_not]
          intro z
          injection z with z
          omega
        rw [e]
        refine ⟨_, rfl, q, k, rfl, hk.same s1, by omega, fun H2 q2 s2 hq2 => ?_⟩
        have hml : m.length ≤ 12 := by
          have h1 := FC.unknowns_len l
          have h2 := T.len
          omega
        refine ⟨q2, rfl, ⟨_, SqL.of hq2⟩, for_list (K := K) (a := q2) (xs := iV (Dx.unknowns k)) (fun i σ H' => ∃ (a b : Option V), σ = [some (.ref p), some (.ref q), some (.ref r), some (.ref t), a, b] ∧ Same H2 H' ∧
          ∀ (j : Nat) v, j < i → (Dx.unknowns k)[j]? = some v → (if (m.any fun z => z.2 == v) = true then none else Dx03.names l k rest (m ++ [(u, v)])) = none)
          ⟨none, none, rfl, Same.refl _, fun j v hj => absurd hj (Nat.not_lt_zero j)⟩ (fun i σ H' _ ⟨_, _, _, s5, _⟩ => SqL.of (s5 _ _ hq2)) ?_ ?_⟩
        · rintro i y σ H' hi ⟨a, b, rfl, s5, no⟩
          obtain ⟨v, hv, rfl⟩ := iV_at hi
          have s6 : Same H H' := s1.trans (s2.trans s5)
          have more : (if (m.any fun z => z.2 == v) = true then none else Dx03.names l k rest (m ++ [(u, v)])) = none → ∀ (j : Nat) w, j < i + 1 → (Dx.unknowns k)[j]? = some w → (if (m.any fun z => z.2 == w) = true then none else Dx03.names l k rest (m ++ [(u, w)])) = none := fun c j w hj hw => by
            rcases Nat.lt_succ_iff_lt_or_eq.mp hj with z | z
            · exact no j w z hw
            · rw [z, hv] at hw
              rw [← Option.some.inj hw]
              exact c
          refine ⟨_, rfl, _, rfl, t, _, (v : Int), FC.zInts (m.map (·.2)), rfl, rfl, s6 _ _ hm, mKV_vals m, _, rfl, ?_⟩
          rw [any_vals]
          cases hv2 : m.any fun z => z.2 == v with
          | true =>
            refine ⟨_, _, rfl, s5, more ?_⟩
            rw [hv2]
            rfl
          | false =>
            refine ⟨_, rfl, _, rfl, _, rfl, _, rfl, _, rfl, _, rfl, t, _, rfl, s6 _ _ hm, r, _, _, _, rfl, rfl, SqL.of (s6 _ _ hus), atI_nat (by rw [mKV_len]; exact iV_get T.at), _, rfl, t, m, u, v, rfl, s6 _ _ hm, T.has, by omega, fun H3 d s7 hd => ?_⟩
            have s8 := s6.trans s7
            have hb2 : ∀ z ∈ m ++ [(u, v)], z.2 < 200 := fun z hz => by
              rcases List.mem_append.mp hz with z1 | z1
              · exact hb z z1
              · rw [List.mem_singleton.mp z1]
                exact hK.val v (FC.mem_unknowns.mp (List.mem_of_getElem? hv)).1
            refine ⟨p, q, r, d, l, k, _, rest, rfl, hl.same s8, hk.same s8, s8 _ _ hus, hd, T.next v, hn', hL, hK, hb2, fun H4 x s9 hx => ?_⟩
            have s10 := s5.trans (s7.trans s9)
            cases c : Dx03.names l k rest (m ++ [(u, v)]) with
            | none =>
              rw [c] at hx
              obtain rfl : x = V.non := hx
              refine ⟨_, rfl, _, rfl, _, _, rfl, s10, more ?_⟩
              rw [hv2, c]
              rfl
            | some m' =>
              rw [c] at hx
              obtain ⟨a', rfl, ha'⟩ := hx
              refine ⟨_, rfl, _, rfl, _, rfl, ?_⟩
              refine h H4 (.ref a') (s1.trans (s2.trans s10)) ?_
              rw [FC.names_cons, FC.findSome_at (y := m') (fun j w hj hw => no j w hj hw) hv (by rw [hv2, c]; rfl)]
              exact ⟨a', rfl, ha'⟩
        · rintro σ H' ⟨a, b, rfl, s5, no⟩
          refine h H' .non (s1.trans (s2.trans s5)) ?_
          rw [FC.names_cons, FC.findSome_none fun j w hj hw => no j w (by rw [iV_len]; exact hj) hw]
          rfl
theorem ok_first_alike (D : Def K mg "first_alike" sFirstAlike) (cG : Cal P w K mg base L2.CX0 3 "may_go_on" spMayGoOn) (cU : Cal P w K mg base L2.CX0 2 "unknowns_of" spUnknownsOf)
    (cW : Cal P w K mg base L2.CX0 1 "with_value" spWithValue) (cM : Cal P w K mg base L2.CX0 3 "mapped" spMapped) (mLen : mg "len" = none) : ∀ n, Cal P w K mg base L2.CX0 (n + 4) "first_alike" (spFirstAlike n)
  | 0 => body_first_alike D cG cU cW cM mLen (.inl rfl)
  | n + 1 => body_first_alike D cG cU cW cM mLen (.inr ⟨n, rfl, ok_first_alike D cG cU cW cM mLen n⟩)
theorem ok_isomorphism (D : Def K mg "isomorphism" sIsomorphism) (cB : Cal P w K mg base L2.CX0 16 "first_alike" (spFirstAlike 12)) (cU : Cal P w K mg base L2.CX0 2 "unknowns_of" spUnknownsOf) : Cal P w K mg base L2.CX0 17 "isomorphism" spIsomorphism := by
  refine D.cal (ps := ["facts", "others"]) (fun _ _ _ _ _ _ us hl => match us, hl with | [_, _], _ => rfl) fun f fd F => ?_
  refine F.ok scIsomorphism (fun vs H Q E h => ?_) (fun cdv A outer s H vs Q E hr h => ?_)
  · obtain ⟨p, q, l, k, rfl, _⟩ := h
    rfl
  · obtain ⟨p, q, l, k, rfl, hl, hk, hL, hK, h⟩ := h
    have l6 := hL.few
    refine ⟨_, pss_one (ps_ret (pe_c cB hr (by decide) (by rfl) (pa_cons (pv 0) (pa_cons (pv 1) (pa_cons (pe_c cU hr (by decide) (by rfl) (pa_cons (pv 0) pa_nil)) (pa_cons pe_dnewK pa_nil)))))), ?_⟩
    refine ⟨_, rfl, _, rfl, _, rfl, p, l, rfl, hl, by omega, fun H1 r s1 hr1 d hd => ?_⟩
    have s2 := s1.trans (same_new (o := .dK []) hd)
    refine ⟨p, q, r, d, l, k, [], Dx.unknowns l, rfl, hl.same s2, hk.same s2, same_new hd _ _ hr1, upd_same, Told.start l, hL.uns, hL, hK, fun z hz => absurd hz (by simp), fun H' v s3 hv => h H' v (s2.trans s3) ?_⟩
    rw [FC.alike_eq hL.srt hK.srt]
    exact hv
end
end FCW

/-! # Part 6. The module of cores, def by def -/
namespace FCW
open PySem PySem.Spec PyProof.Rows L2
open Dx (Fact Facts Map)
abbrev sIsRedundant : Stmt := topS 19
abbrev sRedundantFacts : Stmt := topS 20
abbrev sNextSet : Stmt := topS 21
abbrev sCoreOf : Stmt := topS 22
abbrev sRenamed : Stmt := topS 23
theorem scIsRedundant : FnScope ["facts", "fact"] ["facts", "fact"] (defScope sIsRedundant) := ⟨rfl, rfl, rfl, by decide +kernel, rfl, by decide +kernel, by decide +kernel⟩
theorem scRedundantFacts : FnScope ["facts", "fact"] ["facts"] (defScope sRedundantFacts) := ⟨rfl, rfl, rfl, by decide +kernel, rfl, by decide +kernel, by decide +kernel⟩
theorem scNextSet : FnScope ["facts", "fact", "mapping"] ["facts"] (defScope sNextSet) := ⟨rfl, rfl, rfl, by decide +kernel, rfl, by decide +kernel, by decide +kernel⟩
theorem scCoreOf : FnScope ["facts", "found"] ["facts"] (defScope sCoreOf) := ⟨rfl, rfl, rfl, by decide +kernel, rfl, by decide +kernel, by decide +kernel⟩
theorem scRenamed : FnScope ["facts", "first", "names", "place", "value"] ["facts", "first"] (defScope sRenamed) := ⟨rfl, rfl, rfl, by decide +kernel, rfl, by decide +kernel, by decide +kernel⟩
def spIsRedundant : Sp := fun vs H Q _ => ∃ (p q : Addr) (l : Facts) (f : Fact), vs = [.ref p, .ref q] ∧ FsAt H p l ∧ FAt H q f ∧ l.length ≤ 6 ∧ ∀ (H' : Hp), Same H H' → Q (.bl (Dx03.spare l f)) H'
/-- a def that makes a set of facts of a set -/
def spSet (g : Facts → Facts) : Sp := fun vs H Q _ => ∃ (p : Addr) (l : Facts), vs = [.ref p] ∧ FsAt H p l ∧ FC.FOk l ∧ ∀ (H' : Hp) (r : Addr), Same H H' → FsAt H' r (g l) → Q (.ref r) H'
def spRenamed : Sp := fun vs H Q _ => ∃ (p : Addr) (l : Facts), vs = [.ref p, .int 100] ∧ FsAt H p l ∧ FC.FOk l ∧ ∀ (H' : Hp) (r : Addr), H r = none → Same H H' → FsAt H' r (Dx03.plain l) → Q (.ref r) H'
def nextS (l : Facts) : Facts := (Dx03.shrink l).getD l
def spares (l : Facts) : Facts := l.filter (Dx03.spare l)
section
variable {P : Program} {w : World} {K : PySem.W.Frag} {mg : Str → Option Value} {base : Heap}
theorem ok_is_redundant (D : Def K mg "is_redundant" sIsRedundant) (cM : Cal P w K mg base L2.CX0 18 "does_map" spDoesMap) (cW : Cal P w K mg base L2.CX0 1 "without" spWithout) : Cal P w K mg base L2.CX0 19 "is_redundant" spIsRedundant := by
  refine D.cal (ps := ["facts", "fact"]) (fun _ _ _ _ _ _ us hl => match us, hl with | [_, _], _ => rfl) fun f fd F => ?_
  refine F.ok scIsRedundant (fun vs H Q E h => ?_) (fun cdv A outer s H vs Q E hr h => ?_)
  · obtain ⟨p, q, l, f, rfl, _⟩ := h
    rfl
  · obtain ⟨p, q, l, f, rfl, hl, hf, l6, h⟩ := h
    refine ⟨_, pss_one (ps_ret (pe_c cM hr (by decide) (by rfl) (pa_cons (pv 0) (pa_cons (pe_c cW hr (by decide) (by rfl) (pa_cons (pv 0) (pa_cons (pv 1) pa_nil))) pa_nil)))), ?_⟩
    refine ⟨_, rfl, _, rfl, _, rfl, p, q, l, f, rfl, hl, hf, by omega, fun H1 r _ s1 hr1 => ?_⟩
    refine ⟨p, r, l, Dx03.without l f, rfl, hl.same s1, hr1, l6, ?_, fun H' s2 => h H' (s1.trans s2)⟩
    exact Nat.le_trans (List.length_filter_le _ _) l6
theorem ok_redundant_facts (D : Def K mg "redundant_facts" sRedundantFacts) (cR : Cal P w K mg base L2.CX0 19 "is_redundant" spIsRedundant) : Cal P w K mg base L2.CX0 20 "redundant_facts" (spSet spares) := by
  refine D.cal (ps := ["facts"]) (fun _ _ _ _ _ _ us hl => match us, hl with | [_], _ => rfl) fun f fd F => ?_
  refine F.ok scRedundantFacts (fun vs H Q E h => ?_) (fun cdv A outer s H vs Q E hr h => ?_)
  · obtain ⟨p, l, rfl, _⟩ := h
    rfl
  · obtain ⟨p, l, rfl, hl, hL, h⟩ := h
    have l6 := hL.few
    refine ⟨_, pss_one (ps_ret (pe_lc (own := [("fact", 1)]) (g := gName 1) (by rfl) scRedundantFacts.nd (pi_list (pv 0))
      (blkOk_by (own := [("fact", 1)]) (N := ["facts", "fact"]) (sc := defScope sRedundantFacts) (by decide +kernel)) (fun _ _ _ _ _ => pg_name (i := 1) scRedundantFacts.nd rfl (Or.inl rfl))
      (fun _ _ _ _ _ => pts_one (pt_val (pe_c cR hr (by decide) (by rfl) (pa_cons (pv 0) (pa_cons (pv 1) pa_nil))))) (fun _ _ _ _ _ => pv 1))), ?_⟩
    obtain ⟨qs, hq, hf⟩ := id hl
    refine ⟨_, rfl, p, rfl, ⟨_, SqL.of hq⟩, fun D hD => ?_⟩
    refine lc_list (K := K) (a := p) (xs := qs.map V.ref) (fun i H' => Same H H' ∧ ∃ rs, H' D = some (.lst (rs.map V.ref)) ∧ FRefs H' rs ((l.take i).filter (Dx03.spare l))) ⟨same_new hD, [], upd_same, .nil⟩ (fun i H' _ ⟨s5, _⟩ => SqL.of (s5 _ _ hq)) ?_ ?_
    · rintro i y H' hi ⟨s5, rs, h5, hr5⟩
      obtain ⟨x, hx1, rfl⟩ := refs_at hi
      obtain ⟨g, hf1, hf2⟩ := (hf.same s5).at hx1
      have ht := FC.take_more hf1
      have hlen : (rs.map V.ref).length ≤ 1000 := by
        have h2 := List.length_filter_le (Dx03.spare l) (l.take i)
        have h3 := hr5.len
        rw [List.length_take] at h2
        rw [List.length_map]
        omega
      refine ⟨rfl, _, rfl, _, rfl, p, x, l, g, rfl, hl.same s5, hf2, l6, fun H6 s6 => ⟨_, rfl, ?_⟩⟩
      have ew : (l.take (i + 1)).filter (Dx03.spare l) = (l.take i).filter (Dx03.spare l) ++ (if Dx03.spare l g = true then [g] else []) := by
        rw [ht, List.filter_append]
        by_cases c : Dx03.spare l g = true
        · simp [c]
        · simp [c]
      have s7 := s5.trans s6
      rw [ew]
      cases c : Dx03.spare l g with
      | false =>
        rw [if_neg Bool.false_ne_true, List.append_nil]
        exact ⟨s7, rs, s6 _ _ h5, hr5.same s6⟩
      | true =>
        rw [if_pos rfl]
        have h56 := s6 _ _ h5
        refine ⟨_, rfl, _, h56, small1000 hlen, same_upd hD s7, rs ++ [x], ?_, ?_⟩
        · rw [upd_same, List.map_append]
          rfl
        · have nt : ∀ b ys, H6 b = some (.tup ys) → upd H6 D (.lst (rs.map V.ref ++ [V.ref x])) b = some (.tup ys) := fun b ys e => by
            rw [upd_ne (ne_of e h56 (fun z => nomatch z))]
            exact e
          exact FRefs.snoc (Paired.mapP hr5 fun _ _ e => nt _ _ (s6 _ _ e)) (nt _ _ (s6 _ _ hf2))
    · rintro H' ⟨s5, rs, h5, hr5⟩
      rw [List.length_map, hf.len, List.take_length] at hr5
      exact h _ _ s5 ⟨rs, h5, hr5⟩
theorem ok_next_set (D : Def K mg "next_set" sNextSet) (cM : Cal P w K mg base L2.CX0 17 "first_mapping" spFirstMapping) (cW : Cal P w K mg base L2.CX0 1 "without" spWithout) (cA : Cal P w K mg base L2.CX0 3 "mapped" spMapped) : Cal P w K mg base L2.CX0 18 "next_set" (spSet nextS) := by
  refine D.cal (ps := ["facts"]) (fun _ _ _ _ _ _ us hl => match us, hl with | [_], _ => rfl) fun f fd F => ?_
  refine F.ok scNextSet (fun vs H Q E h => ?_) (fun cdv A outer s H vs Q E hr h => ?_)
  · obtain ⟨p, l, rfl, _⟩ := h
    rfl
  · obtain ⟨p, l, rfl, hl, hL, h⟩ := h
    have l6 := hL.few
    refine ⟨_, pss_cons (ps_for PassesOwn.never rfl (pi_list (pv 0)) (pg_name (i := 1) scNextSet.nd rfl (Or.inl rfl))
      (pss_cons (ps_set (i := 2) scNextSet.nd rfl (Or.inl rfl) (pe_c cM hr (by decide) (by rfl) (pa_cons (pv 0) (pa_cons (pe_c cW hr (by decide) (by rfl) (pa_cons (pv 0) (pa_cons (pv 1) pa_nil))) pa_nil))))
        (pss_one (ps_if (pt_cmp (pc_notN (pv 2))) (pss_one (ps_ret (pe_c cA hr (by decide) (by rfl) (pa_cons (pv 2) (pa_cons (pv 0) pa_nil))))) pss_nil))))
      (pss_one (ps_ret (pv 0))), ?_⟩
    obtain ⟨qs, hq, hf⟩ := id hl
    refine ⟨_, rfl, p, rfl, ⟨_, SqL.of hq⟩, for_list (K := K) (a := p) (xs := qs.map V.ref) (fun i σ H' => ∃ (a b : Option V), σ = [some (.ref p), a, b] ∧ Same H H' ∧ ∀ (j : Nat) g, j < i → l[j]? = some g → Dx.map? l (Dx03.without l g) = none)
      ⟨none, none, rfl, Same.refl H, fun j g hj => absurd hj (Nat.not_lt_zero j)⟩ (fun i σ H' _ ⟨_, _, _, s5, _⟩ => SqL.of (s5 _ _ hq)) ?_ ?_⟩
    · rintro i y σ H' hi ⟨a, b, rfl, s5, no⟩
      obtain ⟨x, hx1, rfl⟩ := refs_at hi
      obtain ⟨g, hf1, hf2⟩ := (hf.same s5).at hx1
      have hwl : (Dx03.without l g).length ≤ 6 := Nat.le_trans (List.length_filter_le _ _) l6
      refine ⟨_, rfl, _, rfl, _, rfl, p, x, l, g, rfl, hl.same s5, hf2, by omega, fun H1 r _ s6 hr1 => ?_⟩
      refine ⟨p, r, l, Dx03.without l g, rfl, (hl.same s5).same s6, hr1, l6, hwl, fun H2 v s7 hv => ?_⟩
      have s8 := s5.trans (s6.trans s7)
      cases c : Dx.map? l (Dx03.without l g) with
      | none =>
        rw [c] at hv
        obtain rfl : v = V.non := hv
        refine ⟨_, rfl, _, rfl, _, _, rfl, s8, fun j g' hj hg => ?_⟩
        rcases Nat.lt_succ_iff_lt_or_eq.mp hj with z | z
        · exact no j g' z hg
        · rw [z, hf1] at hg
          rw [← Option.some.inj hg]
          exact c
      | some m =>
        rw [c] at hv
        obtain ⟨a', rfl, ha'⟩ := hv
        obtain ⟨k1, k2, _⟩ := FC.map_some c
        have hu : Unk m := fun z hz => by
          have hz2 : z.1 ∈ Dx.unknowns l := by
            rw [← k1]
            exact List.mem_map.mpr ⟨z, hz, rfl⟩
          exact (FC.mem_unknowns.mp hz2).2
        have hb : ∀ z ∈ m, z.2 < 200 := fun z hz => (hL.without g).values _ (k2 _ (List.mem_map.mpr ⟨z, hz, rfl⟩))
        refine ⟨_, rfl, _, rfl, _, rfl, _, rfl, a', p, m, l, rfl, ha', hu, hl.same s8, by omega, small_fact hL hb, fun H3 r2 _ s9 hr2 => ?_⟩
        refine h H3 r2 (s8.trans s9) ?_
        have e : Dx03.shrink l = some (Dx.tidy (l.map m.fact)) := by
          unfold Dx03.shrink
          exact FC.findSome_at (y := Dx.tidy (l.map m.fact)) (fun j g' hj hg => by rw [no j g' hj hg]; rfl) hf1 (by rw [c]; rfl)
        unfold nextS
        rw [e]
        exact hr2
    · rintro σ H' ⟨a, b, rfl, s5, no⟩
      refine ⟨_, rfl, ?_⟩
      refine h H' p s5 ?_
      have e : Dx03.shrink l = none := by
        unfold Dx03.shrink
        exact FC.findSome_none fun j g' hj hg => by rw [no j g' (by rw [List.length_map, hf.len]; exact hj) hg]; rfl
      unfold nextS
      rw [e]
      exact hl.same s5
theorem FOk_next {l : Facts} (h : FC.FOk l) : FC.FOk (nextS l) := by
  unfold nextS
  cases e : Dx03.shrink l with
  | none => exact h
  | some k => exact h.shrink e
theorem core_next (l : Facts) : Dx03.core (nextS l) = Dx03.core l := by
  unfold nextS
  cases e : Dx03.shrink l with
  | none => rfl
  | some k => exact (FC.core_some e).symm
theorem next_stop {l : Facts} (h : ¬ (nextS l).length < l.length) : nextS l = Dx03.core l := by
  unfold nextS at h ⊢
  cases e : Dx03.shrink l with
  | none =>
    rw [FC.core_none e]
    rfl
  | some k =>
    rw [e] at h
    exact absurd (FC.shrink_len e) h
theorem FsAt.sq {K : PySem.W.Frag} {H : Hp} {p : Addr} {l : Facts} (h : FsAt H p l) : ∃ xs, SqL K H p xs ∧ xs.length = l.length := by
  obtain ⟨qs, h1, h2⟩ := h
  exact ⟨_, SqL.of h1, by rw [List.length_map, h2.len]⟩
theorem ok_core_of (D : Def K mg "core_of" sCoreOf) (cN : Cal P w K mg base L2.CX0 18 "next_set" (spSet nextS)) (mLen : mg "len" = none) : Cal P w K mg base L2.CX0 19 "core_of" (spSet Dx03.core) := by
  refine D.cal (ps := ["facts"]) (fun _ _ _ _ _ _ us hl => match us, hl with | [_], _ => rfl) fun f fd F => ?_
  refine F.ok scCoreOf (fun vs H Q E h => ?_) (fun cdv A outer s H vs Q E hr h => ?_)
  · obtain ⟨p, l, rfl, _⟩ := h
    rfl
  · obtain ⟨p, l, rfl, hl, hL, h⟩ := h
    refine ⟨_, pss_cons (ps_set (i := 1) scCoreOf.nd rfl (Or.inl rfl) (pe_c cN hr (by decide) (by rfl) (pa_cons (pv 0) pa_nil)))
      (pss_cons (ps_while PassesOwn.never (pt_cmpR op_lt (pe_callB call_len_seq (by rfl) mLen PySem.boot_len (pa_cons (pv 1) pa_nil)) (pe_callB call_len_seq (by rfl) mLen PySem.boot_len (pa_cons (pv 0) pa_nil)) (nomark _))
        (pss_cons (ps_set (i := 0) scCoreOf.nd rfl (Or.inl rfl) (pv 1)) (pss_one (ps_set (i := 1) scCoreOf.nd rfl (Or.inl rfl) (pe_c cN hr (by decide) (by rfl) (pa_cons (pv 0) pa_nil))))))
      (pss_one (ps_ret (pv 1)))), ?_⟩
    refine ⟨_, rfl, p, l, rfl, hl, hL, fun H1 r s1 hr1 => ?_⟩
    refine ⟨fun m σ H' => ∃ (p1 p2 : Addr) (l1 : Facts), σ = [some (.ref p1), some (.ref p2)] ∧ Same H H' ∧ FsAt H' p1 l1 ∧ FsAt H' p2 (nextS l1) ∧ FC.FOk l1 ∧ Dx03.core l1 = Dx03.core l ∧ m = l1.length,
      ⟨_, p, r, l, rfl, s1, hl.same s1, hr1, hL, rfl, rfl⟩, ?_⟩
    rintro m σ H' ⟨p1, p2, l1, rfl, s2, h1, h2, hL1, hc, rfl⟩
    obtain ⟨xs1, q1, n1⟩ := h1.sq (K := K)
    obtain ⟨xs2, q2, n2⟩ := h2.sq (K := K)
    refine ⟨_, rfl, p2, xs2, rfl, .inl q2, _, rfl, p1, xs1, rfl, .inl q1, _, _, rfl, rfl, _, rfl, ?_⟩
    rw [n1, n2]
    by_cases c : (nextS l1).length < l1.length
    · rw [decide_eq_true (show (((nextS l1).length : Nat) : Int) < ((l1.length : Nat) : Int) by omega)]
      refine ⟨fun σ' H2 => ∃ (p1 p2 : Addr), σ' = [some (.ref p1), some (.ref p2)] ∧ Same H H2 ∧ FsAt H2 p1 (nextS l1) ∧ FsAt H2 p2 (nextS (nextS l1)), ?_, ?_⟩
      · rintro σ' H2 ⟨a, b, rfl, s3, g1, g2⟩
        exact ⟨_, c, a, b, nextS l1, rfl, s3, g1, g2, FOk_next hL1, (core_next l1).trans hc, rfl⟩
      · refine ⟨_, rfl, _, rfl, p2, nextS l1, rfl, h2, FOk_next hL1, fun H2 r2 s3 hr2 => ?_⟩
        exact ⟨p2, r2, rfl, s2.trans s3, h2.same s3, hr2⟩
    · rw [decide_eq_false (show ¬ (((nextS l1).length : Nat) : Int) < ((l1.length : Nat) : Int) by omega)]
      refine ⟨_, rfl, ?_⟩
      rw [next_stop c, hc] at h2
      exact h H' p2 s2 h2
theorem rnames_unk {l : Facts} {us : List Nat} (h : ∀ v ∈ us, v ∈ Dx.unknowns l) : Unk (FC.rnames 0 us) := fun z hz => by
  have h1 : z.1 ∈ (FC.rnames 0 us).map (·.1) := List.mem_map.mpr ⟨z, hz, rfl⟩
  rw [FC.rnames_keys] at h1
  exact (FC.mem_unknowns.mp (h _ h1)).2
theorem rnames_len (us : List Nat) : (FC.rnames 0 us).length = us.length := by
  have h := congrArg List.length (FC.rnames_keys us 0)
  rw [List.length_map] at h
  exact h
theorem ok_renamed (D : Def K mg "renamed" sRenamed) (cU : Cal P w K mg base L2.CX0 2 "unknowns_of" spUnknownsOf) (cA : Cal P w K mg base L2.CX0 3 "mapped" spMapped) (mE : mg "enumerate" = none) : Cal P w K mg base L2.CX0 4 "renamed" spRenamed := by
  refine D.cal (ps := ["facts", "first"]) (fun _ _ _ _ _ _ us hl => match us, hl with | [_, _], _ => rfl) fun f fd F => ?_
  refine F.ok scRenamed (fun vs H Q E h => ?_) (fun cdv A outer s H vs Q E hr h => ?_)
  · obtain ⟨p, l, rfl, _⟩ := h
    rfl
  · obtain ⟨p, l, rfl, hl, hL, h⟩ := h
    have l6 := hL.few
    have hu := hu_of hr
    refine ⟨_, pss_cons (ps_set (i := 2) scRenamed.nd rfl (Or.inl rfl) pe_dnewK)
      (pss_cons (ps_for PassesOwn.never rfl (pi_enum (by rfl) mE (pa_cons (pe_c cU hr (by decide) (by rfl) (pa_cons (pv 0) pa_nil)) pa_nil)) (pg_tup rfl (pgs_cons (pg_name (i := 3) scRenamed.nd rfl (Or.inl rfl)) (pgs_cons (pg_name (i := 4) scRenamed.nd rfl (Or.inl rfl)) pgs_nil)))
        (pss_one (ps_dput hu (pv 2) (pv 4) (pe_op op_add (pv 1) (pv 3)) rfl)))
      (pss_one (ps_ret (pe_c cA hr (by decide) (by rfl) (pa_cons (pv 2) (pa_cons (pv 0) pa_nil)))))), ?_⟩
    intro d hd
    have sd := same_new (o := .dK []) hd
    refine ⟨_, rfl, p, l, rfl, hl.same sd, by omega, fun H1 q s1 hq => ?_⟩
    refine ⟨q, _, rfl, SqL.of hq, for_it (walk_enum (K := K) (a := q) (xs := iV (Dx.unknowns l))) (fun i σ H' => ∃ (a b : Option V), σ = [some (.ref p), some (.int 100), some (.ref d), a, b] ∧ Same H H' ∧ H' q = some (.lst (iV (Dx.unknowns l))) ∧ H' d = some (.dK (mKV (FC.rnames 0 ((Dx.unknowns l).take i)))))
      ⟨none, none, rfl, sd.trans s1, hq, s1 _ _ upd_same⟩ (fun i σ H' _ ⟨_, _, _, _, h5, _⟩ => SqL.of h5) ?_ ?_⟩
    · rintro i y σ H' H2 hi ⟨a, b, rfl, s5, h5, hd5⟩ ⟨T, x, z, rfl, hT, rfl, hx, hz⟩
      obtain ⟨u, hu1, rfl⟩ := iV_at hz
      obtain rfl := Option.some.inj hx
      have ht := FC.take_more hu1
      have sT := same_new (o := .tup [V.int (i : Int), V.int (u : Int)]) hT
      have hi2 : i < (Dx.unknowns l).length := (List.getElem?_eq_some_iff.mp hu1).1
      have hu12 := hL.uns
      have tl : ((Dx.unknowns l).take i).length = i := by
        rw [List.length_take]
        omega
      refine ⟨T, _, rfl, SqT.of upd_same, rfl, _, _, rfl, _, _, rfl, rfl, ?_⟩
      refine ⟨_, rfl, _, rfl, _, _, rfl, rfl, _, rfl, _, rfl, d, _, rfl, DPut.k (k := gN u) (sT _ _ hd5) (by rw [mKV_len, rnames_len, tl]; exact small1000 (by omega)), ?_⟩
      have hq2 : q ≠ d := ne_of h5 hd5 (fun z => nomatch z)
      refine ⟨_, _, rfl, same_upd hd (s5.trans sT), by rw [upd_ne hq2]; exact sT _ _ h5, ?_⟩
      have hno : FC.has (FC.rnames 0 ((Dx.unknowns l).take i)) u = false := by
        cases c : FC.has (FC.rnames 0 ((Dx.unknowns l).take i)) u with
        | false => rfl
        | true =>
          have hm := FC.has_iff.mp c
          rw [FC.rnames_keys] at hm
          have nd := FC.srtN_nodup (FC.srt_unknowns l)
          rw [← List.take_append_drop i (Dx.unknowns l)] at nd
          have hdr : u ∈ (Dx.unknowns l).drop i := by
            obtain ⟨h1, h2⟩ := List.getElem?_eq_some_iff.mp hu1
            rw [List.drop_eq_getElem_cons h1, h2]
            exact List.mem_cons_self
          exact ((List.nodup_append.mp nd).2.2 u hm u hdr rfl).elim
      have e : ((100 : Int) + (i : Int)) = ((100 + (0 + ((Dx.unknowns l).take i).length) : Nat) : Int) := by
        rw [tl]
        omega
      rw [ht, FC.rnames_snoc, upd_same]
      refine congrArg (fun z => some (HO.dK z)) ?_
      show putK (mKV (FC.rnames 0 ((Dx.unknowns l).take i))) (gN u) (.int ((100 : Int) + (i : Int))) = _
      rw [e, putK_mKV hno]
    · rintro σ H' ⟨a, b, rfl, s5, h5, hd5⟩
      rw [iV_len, List.take_length] at hd5
      refine ⟨_, rfl, _, rfl, d, p, FC.rnames 0 (Dx.unknowns l), l, rfl, hd5, rnames_unk (fun v hv => hv), hl.same s5, by omega, small_fact hL (FC.rnames_small hL), fun H3 r hn s6 hr3 => ?_⟩
      refine h H3 r (s5.free hn) (s5.trans s6) ?_
      rw [FC.plain_eq]
      exact hr3
end
end FCW

/-! # Part 7. The module of stores: errors, what is told -/
namespace FCW
open PySem PySem.Spec PyProof.Rows L2
open Dx (Fact Facts Map)
abbrev sRInit : Stmt := inClass (topS 35) 0
abbrev sSInit : Stmt := inClass (topS 36) 0
abbrev sAsk : Stmt := topS 37
abbrev sStoreAt : Stmt := topS 38
abbrev sTold : Stmt := topS 39
abbrev sMappingTold : Stmt := topS 40
abbrev sIsValue : Stmt := topS 41
/-- what the written part says of the two classes -/
structure ClsTxt (K : PySem.W.Frag) (mg : Str → Option Value) (CR CS fR fS : Addr) : Prop where
  oex : OexC K CR
  xf : XfC K CR
  iR : PySem.W.findIn K (.ref CR) "__init__" = some (some (.ref fR))
  tR : PySem.W.typeIn K (.ref fR) = some (.type "function")
  nR : PySem.W.findIn K (.ref CR) "code" = some none
  gR : mg "Refusal" = some (.ref CR)
  te : PySem.W.exmOne K (.ref CR) (.ref CR) = some true
  FR : ∃ fd, L2.Fun K "__init__" "Refusal.__init__" sRInit fR fd
  cl : Cls K CS
  mkS : Mk K CS fS
  nF : NoAttr K CS "facts"
  gS : mg "Stores" = some (.ref CS)
  FS : ∃ fd, L2.Fun K "__init__" "Stores.__init__" sSInit fS fd
/-- the refusal's error with this code is wished for -/
def RefE (CR : Addr) (E : XK) (H : Hp) (n : Int) : Prop := ∀ (H' : Hp) (d : Addr), Same H H' → H' d = some (.xd [(("code" : Str), .int n)]) → E (.ref CR) (some d) H'
theorem RefE.same {CR : Addr} {E : XK} {H H1 : Hp} {n : Int} (h : RefE CR E H n) (s : Same H H1) : RefE CR E H1 n := fun H' d s' e => h H' d (s.trans s') e
theorem scRInit : FnScope ["self", "code"] ["self", "code"] (defScope sRInit) := ⟨rfl, rfl, rfl, by decide +kernel, rfl, by decide +kernel, by decide +kernel⟩
theorem scSInit : FnScope ["self"] ["self"] (defScope sSInit) := ⟨rfl, rfl, rfl, by decide +kernel, rfl, by decide +kernel, by decide +kernel⟩
theorem scAsk : FnScope ["holds", "code"] ["holds", "code"] (defScope sAsk) := ⟨rfl, rfl, rfl, by decide +kernel, rfl, by decide +kernel, by decide +kernel⟩
theorem scStoreAt : FnScope ["stores", "number"] ["stores", "number"] (defScope sStoreAt) := ⟨rfl, rfl, rfl, by decide +kernel, rfl, by decide +kernel, by decide +kernel⟩
theorem scTold : FnScope ["facts", "found", "fact"] ["facts"] (defScope sTold) := ⟨rfl, rfl, rfl, by decide +kernel, rfl, by decide +kernel, by decide +kernel⟩
theorem scMappingTold : FnScope ["mapping", "found", "value"] ["mapping"] (defScope sMappingTold) := ⟨rfl, rfl, rfl, by decide +kernel, rfl, by decide +kernel, by decide +kernel⟩
theorem scIsValue : FnScope ["value"] ["value"] (defScope sIsValue) := ⟨rfl, rfl, rfl, by decide +kernel, rfl, by decide +kernel, by decide +kernel⟩
def spRInit (CR : Addr) : Sp := fun vs H Q _ => ∃ (a : Addr) (n : Int), vs = [.ref a, .int n] ∧ H a = some (exo a CR none) ∧
  ∀ dx, H dx = none → dx ≠ a → Q .non (upd (upd H dx (exd dx [(("code" : Str), .int n)])) a (exo a CR (some dx)))
def spAsk (CR : Addr) : Sp := fun vs H Q E => ∃ (b : Bool) (n : Int), vs = [.bl b, .int n] ∧ (b = true → Q .non H) ∧ (b = false → RefE CR E H n)
/-- the stores, an instance at x; their lists are not what is at z -/
def SAt (CS z : Addr) (H : Hp) (x : Addr) (h : Dx03.House) : Prop := ∃ dx pp p0 p1, H x = some (.ins CS dx [(("facts" : Str), .ref pp)]) ∧ H pp = some (.lst [.ref p0, .ref p1]) ∧ FsAt H p0 h.one ∧ FsAt H p1 h.two ∧ p0 ≠ z ∧ p1 ≠ z
def spStoreAt (CR CS : Addr) : Sp := fun vs H Q E => ∃ (x z : Addr) (k : Nat) (h : Dx03.House), vs = [.ref x, .int (k : Int)] ∧ SAt CS z H x h ∧ (1 < k → RefE CR E H (-2)) ∧
  (¬ 1 < k → ∀ (H' : Hp) (p : Addr), Same H H' → FsAt H' p (h.get k) → Q (.ref p) H')
def spTold : Sp := fun vs H Q _ => ∃ (p : Addr) (l : Facts), vs = [.ref p] ∧ FsAt H p l ∧ l.length ≤ 6 ∧ ∀ (H' : Hp) (r : Addr), H r = none → Same H H' → H' r = some (.lst (((l.length : Int) :: FC.flat3 l).map V.int)) → Q (.ref r) H'
def spMappingTold : Sp := fun vs H Q _ => ∃ (v : V) (o : Option Map), vs = [v] ∧ MRes H v o ∧ (∀ m, o = some m → FC.SrtN (m.map (·.1)) ∧ m.length ≤ 12) ∧ ∀ (H' : Hp) (r : Addr), H r = none → Same H H' → H' r = some (.lst ((FC.outMap o).map V.int)) → Q (.ref r) H'
def spIsValue : Sp := fun vs H Q _ => ∃ n : Nat, vs = [.int (n : Int)] ∧ Q (.bl (Dx03.isValue n)) H
section
variable {X : Cx} {j k : Nat} {x : Str} {sp : Sp} {p pos : Pos} {e : Expr} {es : List Expr} {t : TA}
/-- f(e, ..), f a def that may raise: what it raises goes on as E says -/
theorem pe_cx {E : XK} (c : Cal X.prog X.w X.K X.mg X.base (L2.CX X.prog X.w) k x sp) (hr : Room j X.A) (hk : k ≤ j) (hg : Gl X x) (tk : Takes X (fun cls d _ H => E cls d H)) (ha : PA X (e :: es) t)
    (hdb : (x == ("__debug__" : Str)) = false := by decide) (he : starEach (e :: es) X.env = (false, eval e X.env) :: starEach es X.env := by rfl) (hpl : (backTo pos (starEach es X.env)).any (·.1) = false := by rfl) :
    PE X (.Call (.Name x p) (e :: es) [] pos) (tCallS sp (fun _ => E) t) := by
  obtain ⟨f, fd, ps, F, hm, kp, b⟩ := c.ex
  exact pe_callS F (hr.mono hk) hg hm kp b (fun σ => passAt (W := fun cls d _ H => E cls d H) tk σ) ha hdb he hpl
end
section
variable {P : Program} {w : World} {K : PySem.W.Frag} {mg : Str → Option Value} {base : Heap} {CR CS fR fS : Addr}
theorem ok_rinit (T : ClsTxt K mg CR CS fR fS) : ∃ fd, FnOk P w K mg base L2.CX0 1 fR fd ["self", "code"] (spRInit CR) ∧ Binds K fd ["self", "code"] [] := by
  obtain ⟨fd, F⟩ := T.FR
  refine ⟨fd, F.ok scRInit (fun vs H Q E h => ?_) (fun cdv A outer s H vs Q E hr h => ?_), F.binds fun _ _ _ _ _ _ us hl => match us, hl with | [_, _], _ => rfl⟩
  · obtain ⟨a, n, rfl, _⟩ := h
    rfl
  · obtain ⟨a, n, rfl, ha, h⟩ := h
    refine ⟨_, pss_one (ps_ost (pv 0) (pv 1) rfl), ?_⟩
    exact ⟨_, rfl, _, rfl, a, CR, rfl, T.oex, T.nR, .inl ⟨ha, fun dx h1 h2 => h dx h1 h2⟩⟩
theorem ok_ask (D : Def K mg "ask" sAsk) (T : ClsTxt K mg CR CS fR fS) : Cal P w K mg base (L2.CX P w) 3 "ask" (spAsk CR) := by
  refine D.cal (ps := ["holds", "code"]) (fun _ _ _ _ _ _ us hl => match us, hl with | [_, _], _ => rfl) fun f fd F => ?_
  refine F.okX scAsk (fun vs H Q E h => ?_) (fun cdv A outer s H vs Q E hr h => ?_)
  · obtain ⟨b, n, rfl, _⟩ := h
    rfl
  · obtain ⟨b, n, rfl, h1, h2⟩ := h
    obtain ⟨fdR, F1, B1⟩ := ok_rinit (P := P) (w := w) (base := base) T
    refine ⟨_, pss_one (ps_if (pt_not (pt_val (pv 0))) (pss_one (ps_raise rfl (takes_of (E := E) rfl rfl rfl rfl) (pmk_oex T.oex T.iR T.tR F1 hr B1 .nil L2.pass0 rfl T.gR (pa_cons (pv 1) pa_nil)))) pss_nil), ?_⟩
    refine ⟨_, rfl, _, rfl, ?_⟩
    cases b with
    | true => exact h1 rfl
    | false =>
      refine ⟨_, rfl, (by show 1 ≤ 1000; decide), fun a ha => ⟨a, n, rfl, upd_same, fun dx hx hne => ⟨rfl, dx, _, upd_same, by rw [upd_ne hne, upd_same], by rw [upd_ne hne] at hx; exact hx, ?_⟩⟩⟩
      rw [upd_ne hne] at hx
      refine h2 rfl _ dx (fun b o e => ?_) upd_same
      have n1 := ne_of_none e hx
      have n2 := ne_of_none e ha
      rw [upd_ne n1, del_ne n2, upd_ne n2, upd_ne n1, upd_ne n2]
      exact e
theorem SAt.same {z : Addr} {H H' : Hp} {x : Addr} {h : Dx03.House} (s : Same H H') (a : SAt CS z H x h) : SAt CS z H' x h := by
  obtain ⟨dx, pp, p0, p1, h1, h2, h3, h4, h5, h6⟩ := a
  exact ⟨dx, pp, p0, p1, s _ _ h1, s _ _ h2, h3.same s, h4.same s, h5, h6⟩
theorem in01 (k : Nat) : inV (.int (k : Int)) [.int 0, .int 1] = decide (¬ 1 < k) := by
  unfold inV
  show (((0 : Int) == (k : Int)) || (((1 : Int) == (k : Int)) || false)) = decide (¬ 1 < k)
  rw [Bool.eq_iff_iff, Bool.or_eq_true, Bool.or_eq_true, beq_iff_eq, beq_iff_eq, decide_eq_true_eq]
  constructor
  · rintro (h | h | h)
    · omega
    · omega
    · cases h
  · intro h
    omega
theorem ok_store_at (D : Def K mg "store_at" sStoreAt) (T : ClsTxt K mg CR CS fR fS) (cAsk : Cal P w K mg base (L2.CX P w) 3 "ask" (spAsk CR)) (cN : ∃ t, mg "NO_STORE" = some (.int (-2) t)) : Cal P w K mg base (L2.CX P w) 4 "store_at" (spStoreAt CR CS) := by
  refine D.cal (ps := ["stores", "number"]) (fun _ _ _ _ _ _ us hl => match us, hl with | [_, _], _ => rfl) fun f fd F => ?_
  refine F.okX scStoreAt (fun vs H Q E h => ?_) (fun cdv A outer s H vs Q E hr h => ?_)
  · obtain ⟨x, z, k, h, rfl, _⟩ := h
    rfl
  · obtain ⟨x, z, k, g, rfl, hS, h1, h2⟩ := h
    refine ⟨_, pss_cons (ps_expr (pe_cx cAsk hr (by decide) (by rfl) (takes_of (E := E) rfl rfl rfl rfl) (pa_cons (pe_cmpR op_in_seq (pv 1) (pe_tup (pa_cons pe_int (pa_cons pe_int pa_nil))) (by rfl)) (pa_cons (pe_gi cN rfl) pa_nil))))
      (pss_one (ps_ret (pe_ix ix_list (pe_fld (pv 0) rfl) (pv 1) (fun _ _ => rfl)))), ?_⟩
    refine ⟨_, rfl, (by show 2 ≤ sizeLine; decide), fun t ht => ⟨t, _, rfl, .inr (SqT.of upd_same), rfl, rfl, ?_⟩⟩
    have st := same_new (o := .tup [V.int 0, V.int 1]) ht
    refine ⟨inV (.int (k : Int)) [.int 0, .int 1], -2, rfl, fun hb => ?_, fun hb => ?_⟩
    · rw [in01, decide_eq_true_eq] at hb
      obtain ⟨dx, pp, p0, p1, g1, g2, g3, g4, _⟩ := hS.same st
      refine ⟨_, rfl, x, CS, dx, _, _, rfl, g1, T.cl, T.nF, rfl, _, rfl, pp, [.ref p0, .ref p1], _, if k = 0 then .ref p0 else .ref p1, rfl, rfl, SqL.of g2, ?_, ?_⟩
      · refine atI_nat ?_
        rcases Nat.lt_or_ge 0 k with z | z
        · have e : k = 1 := by omega
          subst e
          rfl
        · have e : k = 0 := by omega
          subst e
          rfl
      · by_cases e : k = 0
        · rw [if_pos e]
          refine h2 hb _ p0 st ?_
          unfold Dx03.House.get
          rw [if_pos e]
          exact g3
        · rw [if_neg e]
          refine h2 hb _ p1 st ?_
          unfold Dx03.House.get
          rw [if_neg e]
          exact g4
    · rw [in01, decide_eq_false_iff_not, Decidable.not_not] at hb
      exact (h1 hb).same st
theorem ok_is_value (D : Def K mg "is_value" sIsValue) (cK : ∃ t, mg "MOST_KNOWN" = some (.int 19 t)) (cF : ∃ t, mg "FIRST_UNKNOWN" = some (.int 100 t)) (cU : ∃ t, mg "MOST_UNKNOWN" = some (.int 199 t)) : Cal P w K mg base L2.CX0 1 "is_value" spIsValue := by
  refine D.cal (ps := ["value"]) (fun _ _ _ _ _ _ us hl => match us, hl with | [_], _ => rfl) fun f fd F => ?_
  refine F.ok scIsValue (fun vs H Q E h => ?_) (fun cdv A outer s H vs Q E hr h => ?_)
  · obtain ⟨n, rfl, _⟩ := h
    rfl
  · obtain ⟨n, rfl, q⟩ := h
    refine ⟨_, pss_one (ps_ret (pe_or (pe_cmpR op_le (pv 0) (pe_gi cK rfl) (nomark _)) (pe_one (pe_and (pe_cmpR op_le (pe_gi cF rfl) (pv 0) (nomark _)) (pe_one (pe_cmpR op_le (pv 0) (pe_gi cU rfl) (nomark _))))))), ?_⟩
    unfold Dx03.isValue Dx03.VALUE Dx.UNKNOWN at q
    refine ⟨_, rfl, _, _, rfl, rfl, _, rfl, ?_⟩
    by_cases c : n < 20
    · rw [decide_eq_true (show (n : Int) ≤ 19 by omega)]
      rw [decide_eq_true c] at q
      exact q
    · rw [decide_eq_false (show ¬ (n : Int) ≤ 19 by omega)]
      rw [decide_eq_false c] at q
      refine ⟨_, rfl, _, _, rfl, rfl, _, rfl, ?_⟩
      by_cases c2 : 100 ≤ n
      · rw [decide_eq_true (show (100 : Int) ≤ (n : Int) by omega)]
        rw [decide_eq_true c2] at q
        refine ⟨_, rfl, _, _, rfl, rfl, ?_⟩
        have e : decide ((n : Int) ≤ 199) = decide (n < 200) := by
          rw [Bool.eq_iff_iff, decide_eq_true_eq, decide_eq_true_eq]
          omega
        show Q (.bl (decide ((n : Int) ≤ 199))) H
        rw [e]
        exact q
      · rw [decide_eq_false (show ¬ (100 : Int) ≤ (n : Int) by omega)]
        rw [decide_eq_false c2] at q
        exact q
theorem ok_told (D : Def K mg "told" sTold) (mLen : mg "len" = none) (mL : mg "list" = none) : Cal P w K mg base L2.CX0 1 "told" spTold := by
  refine D.cal (ps := ["facts"]) (fun _ _ _ _ _ _ us hl => match us, hl with | [_], _ => rfl) fun f fd F => ?_
  refine F.ok scTold (fun vs H Q E h => ?_) (fun cdv A outer s H vs Q E hr h => ?_)
  · obtain ⟨p, l, rfl, _⟩ := h
    rfl
  · obtain ⟨p, l, rfl, hl, l6, h⟩ := h
    refine ⟨_, pss_cons (ps_set (i := 1) scTold.nd rfl (Or.inl rfl) (pe_lst (pa_cons (pe_callB call_len_seq (by rfl) mLen PySem.boot_len (pa_cons (pv 0) pa_nil)) pa_nil)))
      (pss_cons (ps_for PassesOwn.never rfl (pi_list (pv 0)) (pg_name (i := 2) scTold.nd rfl (Or.inl rfl))
        (pss_one (ps_expr (pe_bm PySem.F.plainAttrs_list PySem.F.slot_list_extend PySem.F.type_list_extend mt_extend (pv 1) (pa_cons (pe_callTy call_list_of (by rfl) mL (by decide +kernel) (pa_cons (pv 2) pa_nil)) pa_nil)))))
      (pss_one (ps_ret (pv 1)))), ?_⟩
    obtain ⟨qs, hq, hf⟩ := hl
    have ql : (qs.map V.ref).length = l.length := by rw [List.length_map, hf.len]
    refine ⟨_, rfl, p, _, rfl, .inl (SqL.of hq), (by show 1 ≤ sizeLine; decide), fun d hd => ?_⟩
    have sd := same_new (o := .lst [V.int ((qs.map V.ref).length : Nat)]) hd
    refine ⟨_, rfl, p, rfl, ⟨_, SqL.of (sd _ _ hq)⟩, for_list (K := K) (a := p) (xs := qs.map V.ref) (fun i σ H' => ∃ (a : Option V), σ = [some (.ref p), some (.ref d), a] ∧ Same H H' ∧ H' d = some (.lst (((l.length : Int) :: FC.flat3 (l.take i)).map V.int)))
      ⟨none, rfl, sd, by rw [upd_same, ql]; rfl⟩ (fun i σ H' _ ⟨_, _, s5, _⟩ => SqL.of (s5 _ _ hq)) ?_ ?_⟩
    · rintro i y σ H' hi ⟨a, rfl, s5, hd5⟩
      obtain ⟨x, hx1, rfl⟩ := refs_at hi
      obtain ⟨g, hf1, hf2⟩ := (hf.same s5).at hx1
      have ht := FC.take_more hf1
      refine ⟨_, rfl, .inl ⟨rfl, _, SqL.of hd5⟩, _, rfl, x, fV g, rfl, .inr (SqT.of hf2), fun b hb => ?_⟩
      have sb := same_new (o := .lst (fV g)) hb
      refine ⟨d, b, _, fV g, rfl, rfl, sb _ _ hd5, upd_same, ?_, ?_⟩
      · have h3 := FC.flat3_len (l.take i)
        have h4 := List.length_take_le i l
        rw [List.length_map, List.length_cons, h3]
        refine small_line ?_
        show 3 * (l.take i).length + 1 + 3 ≤ 10000000
        have : (l.take i).length ≤ l.length := by rw [List.length_take]; omega
        omega
      · refine ⟨_, rfl, same_upd hd (s5.trans sb), ?_⟩
        rw [upd_same, ht, FC.flat3_snoc, List.map_cons, List.map_cons, List.map_append]
        rfl
    · rintro σ H' ⟨a, rfl, s5, hd5⟩
      rw [List.length_map, hf.len, List.take_length] at hd5
      exact ⟨_, rfl, h _ _ hd s5 hd5⟩
theorem ok_mapping_told (D : Def K mg "mapping_told" sMappingTold) (mS : mg "sorted" = none) (mL : mg "list" = none) : Cal P w K mg base L2.CX0 1 "mapping_told" spMappingTold := by
  refine D.cal (ps := ["mapping"]) (fun _ _ _ _ _ _ us hl => match us, hl with | [_], _ => rfl) fun f fd F => ?_
  refine F.ok scMappingTold (fun vs H Q E h => ?_) (fun cdv A outer s H vs Q E hr h => ?_)
  · obtain ⟨v, o, rfl, _⟩ := h
    rfl
  · obtain ⟨v, o, rfl, hv, hm, h⟩ := h
    have hu := hu_of hr
    cases o with
    | none =>
      obtain rfl : v = V.non := hv
      refine ⟨_, pss_cons (ps_if (pt_cmp (pc_isN (pv 0))) (pss_one (ps_ret (pe_lst (pa_cons pe_int pa_nil)))) pss_nil) pss_never, ?_⟩
      refine ⟨_, rfl, _, rfl, (by show 1 ≤ sizeLine; decide), fun d hd => ?_⟩
      exact h _ d hd (same_new hd) upd_same
    | some m =>
      obtain ⟨a, rfl, ha⟩ := hv
      obtain ⟨ms, ml⟩ := hm m rfl
      refine ⟨_, pss_cons (ps_if (pt_cmp (pc_isN (pv 0))) pss_never pss_nil)
        (pss_cons (ps_set (i := 1) scMappingTold.nd rfl (Or.inl rfl) (pe_lst (pa_cons pe_int pa_nil)))
        (pss_cons (ps_for PassesOwn.never rfl (pi_list (pe_callB cr_sorted (by rfl) mS (by decide +kernel) (pa_cons (pe_callTy (call_list_dK rfl) (by rfl) mL (by decide +kernel) (pa_cons (pv 0) pa_nil)) pa_nil))) (pg_name (i := 2) scMappingTold.nd rfl (Or.inl rfl))
          (pss_one (ps_expr (pe_bm PySem.F.plainAttrs_list PySem.F.slot_list_extend PySem.F.type_list_extend mt_extend (pv 1) (pa_cons (pe_lst (pa_cons (pv 2) (pa_cons (pe_dget hu (pv 0) (pv 2) (fun _ _ => rfl)) pa_nil))) pa_nil)))))
        (pss_one (ps_ret (pv 1))))), ?_⟩
      refine ⟨_, rfl, _, rfl, (by show 1 ≤ sizeLine; decide), fun d hd => ?_⟩
      have sd := same_new (o := .lst [V.int 1]) hd
      refine ⟨_, rfl, a, _, rfl, sd _ _ ha, fun q1 hq1 => ⟨q1, FC.zInts (m.map (·.1)), rfl, SqL.of ?_, ?_, fun ns p2 pm srt hp2 => ?_⟩⟩
      · rw [upd_same]
        unfold mKV FC.zInts
        rw [List.map_map, List.map_map, List.map_map]
        rfl
      · show ((m.map (·.1)).map _).length < 64
        rw [List.length_map, List.length_map]
        omega
      · obtain rfl := FC.ints_same pm srt ms
        have s1 := same_new (o := .lst ((mKV m).map fun kv => kV kv.1)) hq1
        have s2 := same_new (o := .lst ((FC.zInts (m.map (·.1))).map V.int)) hp2
        have s3 := sd.trans (s1.trans s2)
        refine ⟨p2, rfl, ⟨_, SqL.of upd_same⟩, for_list (K := K) (a := p2) (xs := (FC.zInts (m.map (·.1))).map V.int) (fun i σ H' => ∃ (c : Option V), σ = [some (.ref a), some (.ref d), c] ∧ Same H H' ∧ H' p2 = some (.lst ((FC.zInts (m.map (·.1))).map V.int)) ∧ H' d = some (.lst ((1 :: FC.flat2 (m.take i)).map V.int)))
          ⟨none, rfl, s3, upd_same, s2 _ _ (s1 _ _ upd_same)⟩ (fun i σ H' _ ⟨_, _, _, h5, _⟩ => SqL.of h5) ?_ ?_⟩
        · rintro i y σ H' hi ⟨c, rfl, s5, h5, hd5⟩
          rw [← iV_ints] at hi
          obtain ⟨u, hu1, rfl⟩ := iV_at hi
          rw [List.getElem?_map] at hu1
          obtain ⟨z, hz, rfl⟩ := Option.map_eq_some_iff.mp hu1
          have ht := FC.take_more hz
          have hval : valV (mKV m) (gN z.1) = some (.int (z.2 : Int)) := by
            rw [valV_mKV, FC.find_of_mem (v := z.2) (FC.srtN_nodup ms) (List.mem_of_getElem? hz)]
            rfl
          refine ⟨_, rfl, .inl ⟨rfl, _, SqL.of hd5⟩, _, rfl, _, rfl, _, rfl, a, .int (z.2 : Int), rfl, ?_, (by show 2 ≤ sizeLine; decide), fun b hb => ?_⟩
          · have g := DGet.k (k := gN z.1) (s5 _ _ ha)
            rw [hval] at g
            exact g
          · have sb := same_new (o := .lst [V.int (z.1 : Int), V.int (z.2 : Int)]) hb
            refine ⟨d, b, _, _, rfl, rfl, sb _ _ hd5, upd_same, ?_, ?_⟩
            · have h3 := FC.flat2_len (m.take i)
              rw [List.length_map, List.length_cons, h3]
              refine small_line ?_
              show 2 * (m.take i).length + 1 + 2 ≤ 10000000
              have : (m.take i).length ≤ m.length := by rw [List.length_take]; omega
              omega
            · have hne : p2 ≠ d := fun e => by
                rw [e] at hp2
                have := s1 _ _ (show upd H d (.lst [V.int 1]) d = some (.lst [V.int 1]) from upd_same)
                rw [this] at hp2
                cases hp2
              refine ⟨_, rfl, same_upd hd (s5.trans sb), by rw [upd_ne hne]; exact sb _ _ h5, ?_⟩
              obtain ⟨z1, z2⟩ := z
              rw [upd_same, ht, FC.flat2_snoc, List.map_cons, List.map_cons, List.map_append]
              rfl
        · rintro σ H' ⟨c, rfl, s5, h5, hd5⟩
          have e : ((FC.zInts (m.map (·.1))).map V.int).length = m.length := by
            unfold FC.zInts
            rw [List.length_map, List.length_map, List.length_map]
          rw [e, List.take_length] at hd5
          exact ⟨_, rfl, h _ _ hd s5 hd5⟩
end
end FCW

/-! # Part 8. The ten operations -/
namespace FCW
open PySem PySem.Spec PyProof.Rows L2
open Dx (Fact Facts Map)
abbrev sBegins : Stmt := topS 42
abbrev sFactAdded : Stmt := topS 43
abbrev sGone : Stmt := topS 44
abbrev sFactsTold : Stmt := topS 45
abbrev sCoreTold : Stmt := topS 46
abbrev sSpare : Stmt := topS 47
abbrev sMapTold : Stmt := topS 48
abbrev sSame : Stmt := topS 49
abbrev sAlike : Stmt := topS 50
abbrev sKeep : Stmt := topS 51
/-- all that was tracked stands, but instances and pairs of references -/
def Keep (H H' : Hp) : Prop := ∀ b o, H b = some o → (∀ C dx fs, o ≠ .ins C dx fs) → (∀ p q, o ≠ .lst [.ref p, .ref q]) → H' b = some o
theorem Keep.of {H H' : Hp} (s : Same H H') : Keep H H' := fun b o e _ _ => s b o e
theorem Keep.trans {H H1 H2 : Hp} (a : Keep H H1) (b : Keep H1 H2) : Keep H H2 := fun c o e n1 n2 => b c o (a c o e n1 n2) n1 n2
/-- a store's list is not the pair of the stores -/
theorem FsAt.ne {H : Hp} {r pp p0 p1 : Addr} {l l0 : Facts} (h : FsAt H r l) (hp : H pp = some (.lst [.ref p0, .ref p1])) (h0 : FsAt H p0 l0) : r ≠ pp := fun e => by
  subst e
  obtain ⟨qs, h1, h2⟩ := h
  obtain ⟨q0, h3, _⟩ := h0
  rw [hp] at h1
  cases qs with
  | nil => cases h1
  | cons a qs =>
    cases h2 with
    | cons r _ =>
      injection h1 with h1
      injection h1 with h1
      rw [List.map_cons] at h1
      injection h1 with h1 _
      injection h1 with h1
      rw [← h1, h3] at r
      cases r
theorem FsAt.upd {H : Hp} {p pp : Addr} {l : Facts} {xs ys : List V} (h : FsAt H p l) (hp : H pp = some (.lst xs)) (ne : p ≠ pp) : FsAt (upd H pp (.lst ys)) p l := by
  obtain ⟨qs, h1, h2⟩ := h
  refine ⟨qs, by rw [upd_ne ne]; exact h1, Paired.mapP h2 fun q f e => ?_⟩
  rw [upd_ne (ne_of e hp (fun z => nomatch z))]
  exact e
/-- one store's list is another one -/
theorem SAt.put {CS z : Addr} {H : Hp} {x dx pp p0 p1 r : Addr} {h : Dx03.House} {l : Facts} {k : Nat} (hk : ¬ 1 < k) (h1 : H x = some (.ins CS dx [(("facts" : Str), .ref pp)])) (h2 : H pp = some (.lst [.ref p0, .ref p1])) (h3 : FsAt H p0 h.one) (h4 : FsAt H p1 h.two) (z0 : p0 ≠ z) (z1 : p1 ≠ z) (hr : FsAt H r l) (hz : r ≠ z) :
    SAt CS z (upd H pp (.lst ([V.ref p0, V.ref p1].set k (.ref r)))) x (h.set k l) ∧ Keep H (upd H pp (.lst ([V.ref p0, V.ref p1].set k (.ref r)))) := by
  have n0 := h3.ne h2 h3
  have n1 := h4.ne h2 h3
  have nr := hr.ne h2 h3
  have nx : x ≠ pp := ne_of h1 h2 (fun z => nomatch z)
  constructor
  · rcases Nat.lt_or_ge 0 k with zz | zz
    · have e : k = 1 := by omega
      subst e
      exact ⟨dx, pp, p0, r, by rw [upd_ne nx]; exact h1, upd_same, h3.upd h2 n0, hr.upd h2 nr, z0, hz⟩
    · have e : k = 0 := by omega
      subst e
      exact ⟨dx, pp, r, p1, by rw [upd_ne nx]; exact h1, upd_same, hr.upd h2 nr, h4.upd h2 n1, hz, z1⟩
  · intro b o e _ n2
    have nb : b ≠ pp := fun z => by
      rw [z, h2] at e
      exact n2 _ _ (Option.some.inj e).symm
    rw [upd_ne nb]
    exact e
def spDeed (CR CS : Addr) (c : Dx03.Call) : Sp := fun vs H Q E => ∃ (x ns z : Addr) (h : Dx03.House), vs = [.ref x, .ref ns] ∧ SAt CS z H x h ∧ (∃ o, H z = some o) ∧ FC.GoodH h ∧ H ns = some (.lst (iV (FC.nums c))) ∧
  (∀ (H' : Hp) (r : Addr), H r = none → Keep H H' → SAt CS z H' x (Dx03.step h c).1 → H' r = some (.lst ((Dx03Neutral.out (Dx03.step h c).2).map V.int)) → Q (.ref r) H') ∧
  (∀ n : Int, Dx03.step h c = (h, Dx03.ok n) → RefE CR E H n)
theorem scBegins : FnScope ["stores", "numbers"] ["stores", "numbers"] (defScope sBegins) := ⟨rfl, rfl, rfl, by decide +kernel, rfl, by decide +kernel, by decide +kernel⟩
theorem scFactsTold : FnScope ["stores", "numbers"] ["stores", "numbers"] (defScope sFactsTold) := ⟨rfl, rfl, rfl, by decide +kernel, rfl, by decide +kernel, by decide +kernel⟩
theorem scCoreTold : FnScope ["stores", "numbers"] ["stores", "numbers"] (defScope sCoreTold) := ⟨rfl, rfl, rfl, by decide +kernel, rfl, by decide +kernel, by decide +kernel⟩
theorem scSpare : FnScope ["stores", "numbers"] ["stores", "numbers"] (defScope sSpare) := ⟨rfl, rfl, rfl, by decide +kernel, rfl, by decide +kernel, by decide +kernel⟩
theorem scMapTold : FnScope ["stores", "numbers", "facts"] ["stores", "numbers"] (defScope sMapTold) := ⟨rfl, rfl, rfl, by decide +kernel, rfl, by decide +kernel, by decide +kernel⟩
theorem scSame : FnScope ["stores", "numbers", "one", "other"] ["stores", "numbers"] (defScope sSame) := ⟨rfl, rfl, rfl, by decide +kernel, rfl, by decide +kernel, by decide +kernel⟩
theorem scAlike : FnScope ["stores", "numbers"] ["stores", "numbers"] (defScope sAlike) := ⟨rfl, rfl, rfl, by decide +kernel, rfl, by decide +kernel, by decide +kernel⟩
theorem scKeep : FnScope ["stores", "numbers", "found"] ["stores", "numbers"] (defScope sKeep) := ⟨rfl, rfl, rfl, by decide +kernel, rfl, by decide +kernel, by decide +kernel⟩
section
variable {P : Program} {w : World} {K : PySem.W.Frag} {mg : Str → Option Value} {base : Heap} {CR CS fR fS : Addr}
theorem ok_begins (D : Def K mg "begins" sBegins) (T : ClsTxt K mg CR CS fR fS) : Cal P w K mg base (L2.CX P w) 25 "begins" (spDeed CR CS .begins) := by
  refine D.cal (ps := ["stores", "numbers"]) (fun _ _ _ _ _ _ us hl => match us, hl with | [_, _], _ => rfl) fun f fd F => ?_
  refine F.okX scBegins (fun vs H Q E h => ?_) (fun cdv A outer s H vs Q E hr h => ?_)
  · obtain ⟨x, ns, z, h, rfl, _⟩ := h
    rfl
  · obtain ⟨x, ns, z, h, rfl, hS, hz, hG, hns, kQ, _⟩ := h
    refine ⟨_, pss_cons (ps_fld (pv 0) (pe_lst (pa_cons (pe_lst pa_nil) (pa_cons (pe_lst pa_nil) pa_nil))) rfl) (pss_one (ps_ret (pe_lst (pa_cons pe_int pa_nil)))), ?_⟩
    obtain ⟨dx, pp, p0, p1, h1, h2, h3, h4, _⟩ := hS
    refine ⟨(by show 0 ≤ sizeLine; decide), fun a ha => ⟨(by show 0 ≤ sizeLine; decide), fun b hb => ⟨(by show 2 ≤ sizeLine; decide), fun c hc => ?_⟩⟩⟩
    have s1 := same_new (o := .lst []) ha
    have s2 := same_new (o := .lst []) hb
    have s3 := same_new (o := .lst [V.ref a, V.ref b]) hc
    have hx := s3 _ _ (s2 _ _ (s1 _ _ h1))
    refine ⟨_, rfl, x, CS, dx, _, rfl, hx, T.cl, T.nF, (by show 1 < 1000; decide), ?_⟩
    refine ⟨(by show 1 ≤ sizeLine; decide), fun r hr5 => ?_⟩
    have s5 := same_new (o := .lst [V.int 0]) hr5
    have ea : FsAt (upd (upd (upd H a (.lst [])) b (.lst [])) c (.lst [V.ref a, V.ref b])) a [] := ⟨[], s3 _ _ (s2 _ _ upd_same), .nil⟩
    have eb : FsAt (upd (upd (upd H a (.lst [])) b (.lst [])) c (.lst [V.ref a, V.ref b])) b [] := ⟨[], s3 _ _ upd_same, .nil⟩
    obtain ⟨oz, hzz⟩ := hz
    have nxc : c ≠ x := Ne.symm (ne_of_none (s2 _ _ (s1 _ _ h1)) hc)
    have nxa : a ≠ x := Ne.symm (ne_of_none h1 ha)
    have nxb : b ≠ x := Ne.symm (ne_of_none (s1 _ _ h1) hb)
    have hfree : H r = none := by
      by_cases e : r = x
      · rw [e, upd_same] at hr5
        cases hr5
      · rw [upd_ne e] at hr5
        exact (s1.trans (s2.trans s3)).free hr5
    refine kQ _ r hfree ?_ ?_ ?_
    · intro g o e n1 n2
      refine s5 _ _ ?_
      have ng : g ≠ x := fun z => by
        rw [z, h1] at e
        exact n1 _ _ _ (Option.some.inj e).symm
      rw [upd_ne ng]
      exact s3 _ _ (s2 _ _ (s1 _ _ e))
    · refine SAt.same s5 ⟨dx, c, a, b, ?_, ?_, ⟨[], ?_, .nil⟩, ⟨[], ?_, .nil⟩, Ne.symm (ne_of_none hzz ha), Ne.symm (ne_of_none (s1 _ _ hzz) hb)⟩
      · rw [upd_same]
        refine congrArg (fun z => some (HO.ins CS dx z)) ?_
        exact if_pos rfl
      · rw [upd_ne nxc, upd_same]
      · rw [upd_ne nxa]
        exact s3 _ _ (s2 _ _ upd_same)
      · rw [upd_ne nxb]
        exact s3 _ _ upd_same
    · rw [upd_same]
      rfl
/-- an operation that tells a set made of a store -/
theorem told_deed {H : Hp} {Q : VK} {x z : Addr} {h : Dx03.House} {k : Nat} {g : Facts → Facts} {c : Dx03.Call} (hS : SAt CS z H x h) (e1 : ¬ 1 < k → Dx03.step h c = (h, Dx03.told (g (h.get k))))
    (kQ : ∀ (H' : Hp) (r : Addr), H r = none → Keep H H' → SAt CS z H' x (Dx03.step h c).1 → H' r = some (.lst ((Dx03Neutral.out (Dx03.step h c).2).map V.int)) → Q (.ref r) H') (hk : ¬ 1 < k) {H' : Hp} {r : Addr} (hn : H r = none) (s : Same H H')
    (hr : H' r = some (.lst ((((g (h.get k)).length : Int) :: FC.flat3 (g (h.get k))).map V.int))) : Q (.ref r) H' := by
  refine kQ H' r hn (Keep.of s) ?_ ?_
  · rw [e1 hk]
    exact hS.same s
  · rw [e1 hk, FC.out_told]
    exact hr
theorem ok_facts_told (D : Def K mg "facts_told" sFactsTold) (cS : Cal P w K mg base (L2.CX P w) 4 "store_at" (spStoreAt CR CS)) (cT : Cal P w K mg base L2.CX0 1 "told" spTold) (k : Nat) : Cal P w K mg base (L2.CX P w) 25 "facts_told" (spDeed CR CS (.facts k)) := by
  refine D.cal (ps := ["stores", "numbers"]) (fun _ _ _ _ _ _ us hl => match us, hl with | [_, _], _ => rfl) fun f fd F => ?_
  refine F.okX scFactsTold (fun vs H Q E h => ?_) (fun cdv A outer s H vs Q E hr h => ?_)
  · obtain ⟨x, ns, z, h, rfl, _⟩ := h
    rfl
  · obtain ⟨x, ns, z, h, rfl, hS, hz, hG, hns, kQ, kE⟩ := h
    refine ⟨_, pss_one (ps_ret (pe_c cT hr (by decide) (by rfl) (pa_cons (pe_cx cS hr (by decide) (by rfl) (takes_of (E := E) rfl rfl rfl rfl) (pa_cons (pv 0) (pa_cons (pe_ix ix_list (pv 1) pe_int (fun _ _ => rfl)) pa_nil))) pa_nil))), ?_⟩
    refine ⟨_, rfl, _, rfl, ns, _, _, _, rfl, rfl, SqL.of hns, atI_nat (j := 0) rfl, x, z, k, h, rfl, hS, fun h1 => ?_, fun h1 H1 p s1 hp => ?_⟩
    · refine kE (-2) ?_
      show (if 1 < k then (h, Dx03.ok (-2)) else (h, Dx03.told (h.get k))) = _
      rw [if_pos h1]
    · refine ⟨p, _, rfl, hp, (hG.get k).few, fun H2 r hn s2 hr2 => ?_⟩
      exact told_deed (g := id) hS (fun zz => by show (if 1 < k then (h, Dx03.ok (-2)) else (h, Dx03.told (h.get k))) = _; rw [if_neg zz]; rfl) kQ h1 (s1.free hn) (s1.trans s2) hr2
theorem ok_core_told (D : Def K mg "core_told" sCoreTold) (cS : Cal P w K mg base (L2.CX P w) 4 "store_at" (spStoreAt CR CS)) (cT : Cal P w K mg base L2.CX0 1 "told" spTold) (cC : Cal P w K mg base L2.CX0 19 "core_of" (spSet Dx03.core)) (k : Nat) : Cal P w K mg base (L2.CX P w) 25 "core_told" (spDeed CR CS (.core k)) := by
  refine D.cal (ps := ["stores", "numbers"]) (fun _ _ _ _ _ _ us hl => match us, hl with | [_, _], _ => rfl) fun f fd F => ?_
  refine F.okX scCoreTold (fun vs H Q E h => ?_) (fun cdv A outer s H vs Q E hr h => ?_)
  · obtain ⟨x, ns, z, h, rfl, _⟩ := h
    rfl
  · obtain ⟨x, ns, z, h, rfl, hS, hz, hG, hns, kQ, kE⟩ := h
    refine ⟨_, pss_one (ps_ret (pe_c cT hr (by decide) (by rfl) (pa_cons (pe_c cC hr (by decide) (by rfl) (pa_cons (pe_cx cS hr (by decide) (by rfl) (takes_of (E := E) rfl rfl rfl rfl) (pa_cons (pv 0) (pa_cons (pe_ix ix_list (pv 1) pe_int (fun _ _ => rfl)) pa_nil))) pa_nil)) pa_nil))), ?_⟩
    refine ⟨_, rfl, _, rfl, ns, _, _, _, rfl, rfl, SqL.of hns, atI_nat (j := 0) rfl, x, z, k, h, rfl, hS, fun h1 => ?_, fun h1 H1 p s1 hp => ?_⟩
    · refine kE (-2) ?_
      show (if 1 < k then (h, Dx03.ok (-2)) else (h, Dx03.told (Dx03.core (h.get k)))) = _
      rw [if_pos h1]
    · refine ⟨p, _, rfl, hp, hG.get k, fun H2 q s2 hq => ⟨q, _, rfl, hq, (hG.get k).core.few, fun H3 r hn s3 hr3 => ?_⟩⟩
      exact told_deed (g := Dx03.core) hS (fun zz => by show (if 1 < k then (h, Dx03.ok (-2)) else (h, Dx03.told (Dx03.core (h.get k)))) = _; rw [if_neg zz]) kQ h1 ((s1.trans s2).free hn) (s1.trans (s2.trans s3)) hr3
theorem ok_spare (D : Def K mg "spare" sSpare) (cS : Cal P w K mg base (L2.CX P w) 4 "store_at" (spStoreAt CR CS)) (cT : Cal P w K mg base L2.CX0 1 "told" spTold) (cC : Cal P w K mg base L2.CX0 20 "redundant_facts" (spSet spares)) (k : Nat) : Cal P w K mg base (L2.CX P w) 25 "spare" (spDeed CR CS (.spare k)) := by
  refine D.cal (ps := ["stores", "numbers"]) (fun _ _ _ _ _ _ us hl => match us, hl with | [_, _], _ => rfl) fun f fd F => ?_
  refine F.okX scSpare (fun vs H Q E h => ?_) (fun cdv A outer s H vs Q E hr h => ?_)
  · obtain ⟨x, ns, z, h, rfl, _⟩ := h
    rfl
  · obtain ⟨x, ns, z, h, rfl, hS, hz, hG, hns, kQ, kE⟩ := h
    refine ⟨_, pss_one (ps_ret (pe_c cT hr (by decide) (by rfl) (pa_cons (pe_c cC hr (by decide) (by rfl) (pa_cons (pe_cx cS hr (by decide) (by rfl) (takes_of (E := E) rfl rfl rfl rfl) (pa_cons (pv 0) (pa_cons (pe_ix ix_list (pv 1) pe_int (fun _ _ => rfl)) pa_nil))) pa_nil)) pa_nil))), ?_⟩
    refine ⟨_, rfl, _, rfl, ns, _, _, _, rfl, rfl, SqL.of hns, atI_nat (j := 0) rfl, x, z, k, h, rfl, hS, fun h1 => ?_, fun h1 H1 p s1 hp => ?_⟩
    · refine kE (-2) ?_
      show (if 1 < k then (h, Dx03.ok (-2)) else (h, Dx03.told (spares (h.get k)))) = _
      rw [if_pos h1]
    · refine ⟨p, _, rfl, hp, hG.get k, fun H2 q s2 hq => ⟨q, _, rfl, hq, Nat.le_trans (List.length_filter_le _ _) (hG.get k).few, fun H3 r hn s3 hr3 => ?_⟩⟩
      exact told_deed (g := spares) hS (fun zz => by show (if 1 < k then (h, Dx03.ok (-2)) else (h, Dx03.told (spares (h.get k)))) = _; rw [if_neg zz]) kQ h1 ((s1.trans s2).free hn) (s1.trans (s2.trans s3)) hr3
end
end FCW

namespace FCW
open PySem PySem.Spec PyProof.Rows L2
open Dx (Fact Facts Map)
theorem map_keys {l k : Facts} (h6 : l.length ≤ 6) : ∀ m, Dx.map? l k = some m → FC.SrtN (m.map (·.1)) ∧ m.length ≤ 12 := fun m e => by
  obtain ⟨h, _, _⟩ := FC.map_some e
  refine ⟨by rw [h]; exact FC.srt_unknowns l, ?_⟩
  have h2 := congrArg List.length h
  rw [List.length_map] at h2
  have h3 := FC.unknowns_len l
  omega
theorem alike_keys {l k : Facts} (hl : FC.FOk l) (hk : FC.FOk k) : ∀ m, Dx03.alike l k = some m → FC.SrtN (m.map (·.1)) ∧ m.length ≤ 12 := fun m e => by
  rw [FC.alike_eq hl.srt hk.srt] at e
  have q := (FC.names_iso (Dx.unknowns l) [] m [] ⟨rfl, List.nodup_nil, fun v hv => by simp at hv⟩ e).1.keys
  rw [List.nil_append] at q
  refine ⟨by rw [q]; exact FC.srt_unknowns l, ?_⟩
  have h2 := congrArg List.length q
  rw [List.length_map] at h2
  have h3 := hl.uns
  omega
/-- the item of the pair of stores -/
theorem pair_at {p0 p1 : Addr} {k : Nat} (hk : ¬ 1 < k) : atI [V.ref p0, V.ref p1] (k : Int) = some (.ref (if k = 0 then p0 else p1)) := by
  refine atI_nat ?_
  rcases Nat.lt_or_ge 0 k with z | z
  · have e : k = 1 := by omega
    subst e
    rfl
  · have e : k = 0 := by omega
    subst e
    rfl
theorem pair_get {H : Hp} {p0 p1 : Addr} {h : Dx03.House} (k : Nat) (h3 : FsAt H p0 h.one) (h4 : FsAt H p1 h.two) : FsAt H (if k = 0 then p0 else p1) (h.get k) := by
  unfold Dx03.House.get
  by_cases e : k = 0
  · rw [if_pos e, if_pos e]
    exact h3
  · rw [if_neg e, if_neg e]
    exact h4
theorem pair_ix {k : Nat} (hk : ¬ 1 < k) : ixN 2 (k : Int) = some k := by
  unfold ixN
  rw [if_pos (by omega), if_pos (by omega)]
  simp
theorem free_upd {H : Hp} {a r : Addr} {o : HO} (h : upd H a o r = none) : H r = none := by
  by_cases e : r = a
  · rw [e, upd_same] at h
    cases h
  · rw [upd_ne e] at h
    exact h
section
variable {P : Program} {w : World} {K : PySem.W.Frag} {mg : Str → Option Value} {base : Heap} {CR CS fR fS : Addr}
theorem ok_map_told (D : Def K mg "map_told" sMapTold) (T : ClsTxt K mg CR CS fR fS) (cS : Cal P w K mg base (L2.CX P w) 4 "store_at" (spStoreAt CR CS)) (cM : Cal P w K mg base L2.CX0 17 "first_mapping" spFirstMapping) (cT : Cal P w K mg base L2.CX0 1 "mapping_told" spMappingTold) (k : Nat) :
    Cal P w K mg base (L2.CX P w) 25 "map_told" (spDeed CR CS (.map k)) := by
  refine D.cal (ps := ["stores", "numbers"]) (fun _ _ _ _ _ _ us hl => match us, hl with | [_, _], _ => rfl) fun f fd F => ?_
  refine F.okX scMapTold (fun vs H Q E h => ?_) (fun cdv A outer s H vs Q E hr h => ?_)
  · obtain ⟨x, ns, z, h, rfl, _⟩ := h
    rfl
  · obtain ⟨x, ns, z, h, rfl, hS, hz, hG, hns, kQ, kE⟩ := h
    have es : Dx03.step h (.map k) = if 1 < k then (h, Dx03.ok (-2)) else (h, Dx03.toldMap (Dx.map? (h.get k) (h.get (1 - k)))) := rfl
    refine ⟨_, pss_cons (ps_set (i := 2) scMapTold.nd rfl (Or.inl rfl) (pe_cx cS hr (by decide) (by rfl) (takes_of (E := E) rfl rfl rfl rfl) (pa_cons (pv 0) (pa_cons (pe_ix ix_list (pv 1) pe_int (fun _ _ => rfl)) pa_nil))))
      (pss_one (ps_ret (pe_c cT hr (by decide) (by rfl) (pa_cons (pe_c cM hr (by decide) (by rfl) (pa_cons (pv 2) (pa_cons (pe_ix ix_list (pe_fld (pv 0) rfl) (pe_op op_sub pe_int (pe_ix ix_list (pv 1) pe_int (fun _ _ => rfl))) (fun _ _ => rfl)) pa_nil))) pa_nil)))), ?_⟩
    refine ⟨_, rfl, _, rfl, ns, _, _, _, rfl, rfl, SqL.of hns, atI_nat (j := 0) rfl, x, z, k, h, rfl, hS, fun h1 => ?_, fun h1 H1 p s1 hp => ?_⟩
    · refine kE (-2) ?_
      rw [es, if_pos h1]
    · obtain ⟨dx, pp, p0, p1, g1, g2, g3, g4, _⟩ := hS.same s1
      have e1 : (1 : Int) - (k : Int) = ((1 - k : Nat) : Int) := by omega
      have hat := pair_at (p0 := p0) (p1 := p1) (k := 1 - k) (by omega)
      rw [← e1] at hat
      refine ⟨_, rfl, _, rfl, x, CS, dx, _, _, rfl, g1, T.cl, T.nF, rfl, _, rfl, ns, _, _, _, rfl, rfl, SqL.of (s1 _ _ hns), atI_nat (j := 0) rfl, _, _, rfl, rfl, pp, _, _, _, rfl, rfl, SqL.of g2, hat, ?_⟩
      refine ⟨p, _, h.get k, h.get (1 - k), rfl, hp, pair_get (1 - k) g3 g4, (hG.get k).few, (hG.get (1 - k)).few, fun H2 v s2 hv => ?_⟩
      refine ⟨v, _, rfl, hv, map_keys (hG.get k).few, fun H3 r hn s3 hr3 => ?_⟩
      refine kQ H3 r ((s1.trans s2).free hn) (Keep.of (s1.trans (s2.trans s3))) ?_ ?_
      · rw [es, if_neg h1]
        exact hS.same (s1.trans (s2.trans s3))
      · rw [es, if_neg h1, FC.out_map]
        exact hr3
theorem ok_same (D : Def K mg "same" sSame) (T : ClsTxt K mg CR CS fR fS) (cM : Cal P w K mg base L2.CX0 18 "does_map" spDoesMap) (mI : mg "int" = none) : Cal P w K mg base (L2.CX P w) 25 "same" (spDeed CR CS .same) := by
  refine D.cal (ps := ["stores", "numbers"]) (fun _ _ _ _ _ _ us hl => match us, hl with | [_, _], _ => rfl) fun f fd F => ?_
  refine F.okX scSame (fun vs H Q E h => ?_) (fun cdv A outer s H vs Q E hr h => ?_)
  · obtain ⟨x, ns, z, h, rfl, _⟩ := h
    rfl
  · obtain ⟨x, ns, z, h, rfl, hS, hz, hG, hns, kQ, kE⟩ := h
    refine ⟨_, pss_cons (ps_asg (pe_fld (pv 0) rfl) (pg_unl rfl (pgs_cons (pg_name (i := 2) scSame.nd rfl (Or.inl rfl)) (pgs_cons (pg_name (i := 3) scSame.nd rfl (Or.inl rfl)) pgs_nil))))
      (pss_one (ps_ret (pe_lst (pa_cons (pe_callTy call_int1 (by rfl) mI (by decide +kernel) (pa_cons (pe_and (pe_c cM hr (by decide) (by rfl) (pa_cons (pv 2) (pa_cons (pv 3) pa_nil))) (pe_one (pe_c cM hr (by decide) (by rfl) (pa_cons (pv 3) (pa_cons (pv 2) pa_nil))))) pa_nil)) pa_nil)))), ?_⟩
    obtain ⟨dx, pp, p0, p1, g1, g2, g3, g4, _⟩ := id hS
    have l1 := hG.one.few
    have l2 := hG.two.few
    refine ⟨_, rfl, x, CS, dx, _, _, rfl, g1, T.cl, T.nF, rfl, pp, _, rfl, SqL.of g2, rfl, _, _, rfl, _, _, rfl, rfl, ?_⟩
    refine ⟨_, rfl, _, rfl, p0, p1, h.one, h.two, rfl, g3, g4, l1, l2, fun H1 s1 => ⟨_, rfl, ?_⟩⟩
    have fin : ∀ (b : Bool) (H2 : Hp) (r : Addr), Dx03.same h.one h.two = b → Same H H2 → H2 r = none → Q (.ref r) (upd H2 r (.lst [V.int (if b = true then 1 else 0)])) := fun b H2 r eb s2 hr2 => by
      have s3 := s2.trans (same_new (o := .lst [V.int (if b = true then 1 else 0)]) hr2)
      refine kQ _ r (s2.free hr2) (Keep.of s3) (hS.same s3) ?_
      show _ = some (HO.lst ([(if Dx03.same h.one h.two = true then (1 : Int) else 0)].map V.int))
      rw [upd_same, eb]
      rfl
    unfold Dx03.same at fin
    cases c1 : (Dx.map? h.one h.two).isSome with
    | false =>
      rw [c1] at fin
      refine .inr ⟨false, rfl, (by show 1 ≤ sizeLine; decide), fun r hr2 => ?_⟩
      exact fin false H1 r rfl s1 hr2
    | true =>
      rw [c1] at fin
      refine ⟨_, rfl, _, rfl, p1, p0, h.two, h.one, rfl, g4.same s1, g3.same s1, l2, l1, fun H2 s2 => ?_⟩
      refine .inr ⟨_, rfl, (by show 1 ≤ sizeLine; decide), fun r hr2 => ?_⟩
      exact fin _ H2 r rfl (s1.trans s2) hr2
theorem ok_alike (D : Def K mg "alike" sAlike) (T : ClsTxt K mg CR CS fR fS) (cI : Cal P w K mg base L2.CX0 17 "isomorphism" spIsomorphism) (cT : Cal P w K mg base L2.CX0 1 "mapping_told" spMappingTold) : Cal P w K mg base (L2.CX P w) 25 "alike" (spDeed CR CS .alike) := by
  refine D.cal (ps := ["stores", "numbers"]) (fun _ _ _ _ _ _ us hl => match us, hl with | [_, _], _ => rfl) fun f fd F => ?_
  refine F.okX scAlike (fun vs H Q E h => ?_) (fun cdv A outer s H vs Q E hr h => ?_)
  · obtain ⟨x, ns, z, h, rfl, _⟩ := h
    rfl
  · obtain ⟨x, ns, z, h, rfl, hS, hz, hG, hns, kQ, kE⟩ := h
    refine ⟨_, pss_one (ps_ret (pe_c cT hr (by decide) (by rfl) (pa_cons (pe_c cI hr (by decide) (by rfl) (pa_cons (pe_ix ix_list (pe_fld (pv 0) rfl) pe_int (fun _ _ => rfl)) (pa_cons (pe_ix ix_list (pe_fld (pv 0) rfl) pe_int (fun _ _ => rfl)) pa_nil))) pa_nil))), ?_⟩
    obtain ⟨dx, pp, p0, p1, g1, g2, g3, g4, _⟩ := id hS
    refine ⟨_, rfl, x, CS, dx, _, _, rfl, g1, T.cl, T.nF, rfl, pp, _, _, _, rfl, rfl, SqL.of g2, atI_nat (j := 0) rfl, _, rfl, x, CS, dx, _, _, rfl, g1, T.cl, T.nF, rfl, pp, _, _, _, rfl, rfl, SqL.of g2, atI_nat (j := 1) rfl, ?_⟩
    refine ⟨p0, p1, h.one, h.two, rfl, g3, g4, hG.one, hG.two, fun H2 v s2 hv => ?_⟩
    refine ⟨v, _, rfl, hv, alike_keys hG.one hG.two, fun H3 r hn s3 hr3 => ?_⟩
    refine kQ H3 r (s2.free hn) (Keep.of (s2.trans s3)) (hS.same (s2.trans s3)) ?_
    show _ = some (HO.lst ((Dx03Neutral.out (Dx03.toldMap (Dx03.alike h.one h.two))).map V.int))
    rw [FC.out_map]
    exact hr3
theorem ok_keep (D : Def K mg "keep" sKeep) (T : ClsTxt K mg CR CS fR fS) (cS : Cal P w K mg base (L2.CX P w) 4 "store_at" (spStoreAt CR CS)) (cC : Cal P w K mg base L2.CX0 19 "core_of" (spSet Dx03.core)) (cR : Cal P w K mg base L2.CX0 4 "renamed" spRenamed) (cT : Cal P w K mg base L2.CX0 1 "told" spTold)
    (cF : ∃ t, mg "FIRST_UNKNOWN" = some (.int 100 t)) (k : Nat) : Cal P w K mg base (L2.CX P w) 25 "keep" (spDeed CR CS (.keep k)) := by
  refine D.cal (ps := ["stores", "numbers"]) (fun _ _ _ _ _ _ us hl => match us, hl with | [_, _], _ => rfl) fun f fd F => ?_
  refine F.okX scKeep (fun vs H Q E h => ?_) (fun cdv A outer s H vs Q E hr h => ?_)
  · obtain ⟨x, ns, z, h, rfl, _⟩ := h
    rfl
  · obtain ⟨x, ns, z, h, rfl, hS, hz, hG, hns, kQ, kE⟩ := h
    have es : Dx03.step h (.keep k) = if 1 < k then (h, Dx03.ok (-2)) else (h.set k (Dx03.plain (Dx03.core (h.get k))), Dx03.told (Dx03.plain (Dx03.core (h.get k)))) := rfl
    refine ⟨_, pss_cons (ps_set (i := 2) scKeep.nd rfl (Or.inl rfl) (pe_c cR hr (by decide) (by rfl) (pa_cons (pe_c cC hr (by decide) (by rfl) (pa_cons (pe_cx cS hr (by decide) (by rfl) (takes_of (E := E) rfl rfl rfl rfl) (pa_cons (pv 0) (pa_cons (pe_ix ix_list (pv 1) pe_int (fun _ _ => rfl)) pa_nil))) pa_nil)) (pa_cons (pe_gi cF rfl) pa_nil))))
      (pss_cons (ps_asg (pv 2) (pg_sub (pe_fld (pv 0) rfl) (pe_ix ix_list (pv 1) pe_int (fun _ _ => rfl)) set_list))
      (pss_one (ps_ret (pe_c cT hr (by decide) (by rfl) (pa_cons (pv 2) pa_nil))))), ?_⟩
    refine ⟨_, rfl, _, rfl, ns, _, _, _, rfl, rfl, SqL.of hns, atI_nat (j := 0) rfl, x, z, k, h, rfl, hS, fun h1 => ?_, fun h1 H1 p s1 hp => ?_⟩
    · refine kE (-2) ?_
      rw [es, if_pos h1]
    · have hC := (hG.get k).core
      refine ⟨p, _, rfl, hp, hG.get k, fun H2 q s2 hq => ⟨q, _, rfl, hq, hC, fun H3 r hn3 s3 hr3 => ?_⟩⟩
      have s4 := s1.trans (s2.trans s3)
      obtain ⟨dx, pp, p0, p1, g1, g2, g3, g4, z0, z1⟩ := hS.same s4
      obtain ⟨oz, hzz⟩ := hz
      have nz : r ≠ z := Ne.symm (ne_of_none ((s1.trans s2) _ _ hzz) hn3)
      refine ⟨_, rfl, _, rfl, x, CS, dx, _, _, rfl, g1, T.cl, T.nF, rfl, _, rfl, ns, _, _, _, rfl, rfl, SqL.of (s4 _ _ hns), atI_nat (j := 0) rfl, pp, _, (k : Int), k, rfl, rfl, g2, pair_ix h1, ?_⟩
      obtain ⟨u1, u2⟩ := SAt.put h1 g1 g2 g3 g4 z0 z1 hr3 nz
      refine ⟨_, rfl, r, _, rfl, hr3.upd g2 (hr3.ne g2 g3), hC.plain.few, fun H5 r5 hn s5 hr5 => ?_⟩
      refine kQ H5 r5 (s4.free (free_upd hn)) ((Keep.of s4).trans (u2.trans (Keep.of s5))) ?_ ?_
      · rw [es, if_neg h1]
        exact u1.same s5
      · rw [es, if_neg h1, FC.out_told]
        exact hr5
end
end FCW

namespace FCW
open PySem PySem.Spec PyProof.Rows L2
open Dx (Fact Facts Map)
theorem scFactAdded : FnScope ["stores", "numbers", "facts", "fact", "found"] ["stores", "numbers"] (defScope sFactAdded) := ⟨rfl, rfl, rfl, by decide +kernel, rfl, by decide +kernel, by decide +kernel⟩
theorem scGone : FnScope ["stores", "numbers", "facts", "fact"] ["stores", "numbers"] (defScope sGone) := ⟨rfl, rfl, rfl, by decide +kernel, rfl, by decide +kernel, by decide +kernel⟩
theorem fact_cut (k t a b : Nat) : cutV (iV [k, t, a, b]) (some 1) none = fV ⟨t, a, b⟩ := rfl
section
variable {P : Program} {w : World} {K : PySem.W.Frag} {mg : Str → Option Value} {base : Heap} {CR CS fR fS : Addr}
theorem ok_gone (D : Def K mg "gone" sGone) (T : ClsTxt K mg CR CS fR fS) (cS : Cal P w K mg base (L2.CX P w) 4 "store_at" (spStoreAt CR CS)) (cA : Cal P w K mg base (L2.CX P w) 3 "ask" (spAsk CR)) (cW : Cal P w K mg base L2.CX0 1 "without" spWithout)
    (mT : mg "tuple" = none) (mLen : mg "len" = none) (cN : ∃ t, mg "NO_FACT" = some (.int (-3) t)) (k t a b : Nat) : Cal P w K mg base (L2.CX P w) 25 "gone" (spDeed CR CS (.gone k t a b)) := by
  refine D.cal (ps := ["stores", "numbers"]) (fun _ _ _ _ _ _ us hl => match us, hl with | [_, _], _ => rfl) fun f fd F => ?_
  refine F.okX scGone (fun vs H Q E h => ?_) (fun cdv A outer s H vs Q E hr h => ?_)
  · obtain ⟨x, ns, z, h, rfl, _⟩ := h
    rfl
  · obtain ⟨x, ns, z, h, rfl, hS, hz, hG, hns, kQ, kE⟩ := h
    have es : Dx03.step h (.gone k t a b) = if 1 < k then (h, Dx03.ok (-2)) else if (h.get k).contains ⟨t, a, b⟩ = false then (h, Dx03.ok (-3)) else (h.set k (Dx03.without (h.get k) ⟨t, a, b⟩), Dx03.ok ((Dx03.without (h.get k) ⟨t, a, b⟩).length : Nat)) := rfl
    have hu65 := hu65_of hr
    refine ⟨_, pss_cons (ps_par (i := 2) (j := 3) (by rfl) scGone.nd rfl rfl (by decide) rfl rfl (pa_cons (pe_cx cS hr (by decide) (by rfl) (takes_of (E := E) rfl rfl rfl rfl) (pa_cons (pv 0) (pa_cons (pe_ix ix_list (pv 1) pe_int (fun _ _ => rfl)) pa_nil))) (pa_cons (pe_tupleOf (by rfl) mT (pe_slice sl_list (pv 1) (po_some pe_int) po_none)) pa_nil)) (by rfl))
      (pss_cons (ps_expr (pe_cx cA hr (by decide) (by rfl) (takes_of (E := E) rfl rfl rfl rfl) (pa_cons (pe_cmpR (op_inD hu65) (pv 3) (pv 2) (by rfl)) (pa_cons (pe_gi cN rfl) pa_nil))))
      (pss_cons (ps_asg (pe_c cW hr (by decide) (by rfl) (pa_cons (pv 2) (pa_cons (pv 3) pa_nil))) (pg_sub (pe_fld (pv 0) rfl) (pe_ix ix_list (pv 1) pe_int (fun _ _ => rfl)) set_list))
      (pss_one (ps_ret (pe_lst (pa_cons (pe_op op_sub (pe_callB call_len_seq (by rfl) mLen PySem.boot_len (pa_cons (pv 2) pa_nil)) pe_int) pa_nil)))))), ?_⟩
    refine ⟨_, rfl, _, rfl, ns, _, _, _, rfl, rfl, SqL.of hns, atI_nat (j := 0) rfl, x, z, k, h, rfl, hS, fun h1 => ?_, fun h1 H1 p s1 hp => ?_⟩
    · refine kE (-2) ?_
      rw [es, if_pos h1]
    · have hL := hG.get k
      refine ⟨_, rfl, 1, rfl, ns, _, rfl, SqL.of (s1 _ _ hns), fun c hc => .inl ⟨c, _, rfl, SqL.of upd_same, fun d hd => ?_⟩⟩
      have sc := same_new (o := .lst (cutV (iV (FC.nums (.gone k t a b))) (some 1) none)) hc
      have sd := same_new (o := .tup (cutV (iV (FC.nums (.gone k t a b))) (some 1) none)) hd
      have s2 := s1.trans (sc.trans sd)
      have hf : FAt (upd (upd H1 c (.lst (cutV (iV (FC.nums (.gone k t a b))) (some 1) none))) d (.tup (cutV (iV (FC.nums (.gone k t a b))) (some 1) none))) d ⟨t, a, b⟩ := by
        show _ = _
        rw [upd_same]
        rfl
      have hp2 := hp.same (sc.trans sd)
      refine ⟨_, _, rfl, ?_⟩
      refine ⟨_, rfl, _, rfl, fD ⟨t, a, b⟩, (h.get k).map fD, hf.dp, hp2.dp, fD_shaped _, lD_shaped _, ?_⟩
      rw [lD_any]
      refine ⟨(h.get k).contains ⟨t, a, b⟩, -3, rfl, fun hb => ?_, fun hb => ?_⟩
      · refine ⟨_, rfl, _, rfl, p, d, h.get k, ⟨t, a, b⟩, rfl, hp2, hf, by have := hL.few; omega, fun H3 r hn3 s3 hr3 => ?_⟩
        have s4 := s2.trans s3
        obtain ⟨dx, pp, p0, p1, g1, g2, g3, g4, z0, z1⟩ := hS.same s4
        obtain ⟨oz, hzz⟩ := hz
        have nz : r ≠ z := Ne.symm (ne_of_none (s2 _ _ hzz) hn3)
        refine ⟨_, rfl, x, CS, dx, _, _, rfl, g1, T.cl, T.nF, rfl, _, rfl, ns, _, _, _, rfl, rfl, SqL.of (s4 _ _ hns), atI_nat (j := 0) rfl, pp, _, (k : Int), k, rfl, rfl, g2, pair_ix h1, ?_⟩
        obtain ⟨u1, u2⟩ := SAt.put h1 g1 g2 g3 g4 z0 z1 hr3 nz
        have hp3 := hp2.same s3
        have hp5 := hp3.upd (ys := [V.ref p0, V.ref p1].set k (.ref r)) g2 (hp3.ne g2 g3)
        obtain ⟨xs, q1, q2⟩ := hp5.sq (K := K)
        refine ⟨_, rfl, p, xs, rfl, .inl q1, _, _, rfl, rfl, (by show 1 ≤ sizeLine; decide), fun r5 hr5 => ?_⟩
        have s5 := same_new (o := .lst [V.int ((xs.length : Int) - 1)]) hr5
        refine kQ _ r5 (s4.free (free_upd hr5)) ((Keep.of s4).trans (u2.trans (Keep.of s5))) ?_ ?_
        · rw [es, if_neg h1, if_neg (by rw [hb]; decide)]
          exact u1.same s5
        · rw [es, if_neg h1, if_neg (by rw [hb]; decide), upd_same]
          have e := FC.without_len_gone hL.srt (List.contains_iff_mem.mp hb)
          have e2 : (xs.length : Int) - 1 = ((Dx03.without (h.get k) ⟨t, a, b⟩).length : Int) := by
            rw [q2]
            omega
          show some (HO.lst [V.int ((xs.length : Int) - 1)]) = _
          rw [e2]
          rfl
      · refine (kE (-3) ?_).same s2
        rw [es, if_neg h1, if_pos hb]
end
end FCW

namespace FCW
open PySem PySem.Spec PyProof.Rows L2
open Dx (Fact Facts Map)
section
variable {P : Program} {w : World} {K : PySem.W.Frag} {mg : Str → Option Value} {base : Heap} {CR CS fR fS : Addr}
theorem ok_fact_added (D : Def K mg "fact_added" sFactAdded) (T : ClsTxt K mg CR CS fR fS) (cS : Cal P w K mg base (L2.CX P w) 4 "store_at" (spStoreAt CR CS)) (cA : Cal P w K mg base (L2.CX P w) 3 "ask" (spAsk CR)) (cV : Cal P w K mg base L2.CX0 1 "is_value" spIsValue)
    (cU : Cal P w K mg base L2.CX0 2 "unknowns_of" spUnknownsOf) (mT : mg "tuple" = none) (mLen : mg "len" = none) (mSo : mg "sorted" = none) (cB : ∃ t, mg "BAD_FACT" = some (.int (-1) t)) (cTh : ∃ t, mg "THERE" = some (.int (-4) t)) (cFu : ∃ t, mg "FULL" = some (.int (-7) t))
    (cMF : ∃ t, mg "MOST_FACTS" = some (.int 6 t)) (cMU : ∃ t, mg "MOST_UNKNOWNS" = some (.int 4 t)) (k t a b : Nat) : Cal P w K mg base (L2.CX P w) 25 "fact_added" (spDeed CR CS (.fact k t a b)) := by
  refine D.cal (ps := ["stores", "numbers"]) (fun _ _ _ _ _ _ us hl => match us, hl with | [_, _], _ => rfl) fun f fd F => ?_
  refine F.okX scFactAdded (fun vs H Q E h => ?_) (fun cdv A outer s H vs Q E hr h => ?_)
  · obtain ⟨x, ns, z, h, rfl, _⟩ := h
    rfl
  · obtain ⟨x, ns, zf, h, rfl, hS, hzf, hG, hns, kQ, kE⟩ := h
    have es : Dx03.step h (.fact k t a b) = if 1 < k then (h, Dx03.ok (-2)) else if 1 < t ∨ Dx03.isValue a = false ∨ Dx03.isValue b = false then (h, Dx03.ok (-1)) else if (h.get k).contains ⟨t, a, b⟩ = true then (h, Dx03.ok (-4)) else
      if Dx03.FACTS < (Dx.put ⟨t, a, b⟩ (h.get k)).length ∨ Dx03.UNKNOWNS < (Dx.unknowns (Dx.put ⟨t, a, b⟩ (h.get k))).length then (h, Dx03.ok (-7)) else (h.set k (Dx.put ⟨t, a, b⟩ (h.get k)), Dx03.ok ((Dx.put ⟨t, a, b⟩ (h.get k)).length : Nat)) := rfl
    have hu65 := hu65_of hr
    refine ⟨_, pss_cons (ps_par (i := 2) (j := 3) (by rfl) scFactAdded.nd rfl rfl (by decide) rfl rfl (pa_cons (pe_cx cS hr (by decide) (by rfl) (takes_of (E := E) rfl rfl rfl rfl) (pa_cons (pv 0) (pa_cons (pe_ix ix_list (pv 1) pe_int (fun _ _ => rfl)) pa_nil))) (pa_cons (pe_tupleOf (by rfl) mT (pe_slice sl_list (pv 1) (po_some pe_int) po_none)) pa_nil)) (by rfl))
      (pss_cons (ps_expr (pe_cx cA hr (by decide) (by rfl) (takes_of (E := E) rfl rfl rfl rfl) (pa_cons (pe_and (pe_cmpR op_in_seq (pe_ix ix_tup (pv 3) pe_int (fun _ _ => rfl)) (pe_tup (pa_cons pe_int (pa_cons pe_int pa_nil))) (by rfl))
          (pe_and (pe_c cV hr (by decide) (by rfl) (pa_cons (pe_ix ix_tup (pv 3) pe_int (fun _ _ => rfl)) pa_nil)) (pe_one (pe_c cV hr (by decide) (by rfl) (pa_cons (pe_ix ix_tup (pv 3) pe_int (fun _ _ => rfl)) pa_nil))))) (pa_cons (pe_gi cB rfl) pa_nil))))
      (pss_cons (ps_expr (pe_cx cA hr (by decide) (by rfl) (takes_of (E := E) rfl rfl rfl rfl) (pa_cons (pe_cmpR (op_notInD hu65) (pv 3) (pv 2) (by rfl)) (pa_cons (pe_gi cTh rfl) pa_nil))))
      (pss_cons (ps_set (i := 4) scFactAdded.nd rfl (Or.inl rfl) (pe_callB (cr_sortT (d := 3) (B := 200) (by decide)) (by rfl) mSo (by decide +kernel) (pa_cons (pe_op op_cat (pv 2) (pe_lst (pa_cons (pv 3) pa_nil))) pa_nil)))
      (pss_cons (ps_expr (pe_cx cA hr (by decide) (by rfl) (takes_of (E := E) rfl rfl rfl rfl) (pa_cons (pe_and (pe_cmpR op_le (pe_callB call_len_seq (by rfl) mLen PySem.boot_len (pa_cons (pv 4) pa_nil)) (pe_gi cMF rfl) (nomark _))
          (pe_one (pe_cmpR op_le (pe_callB call_len_seq (by rfl) mLen PySem.boot_len (pa_cons (pe_c cU hr (by decide) (by rfl) (pa_cons (pv 4) pa_nil)) pa_nil)) (pe_gi cMU rfl) (nomark _)))) (pa_cons (pe_gi cFu rfl) pa_nil))))
      (pss_cons (ps_asg (pv 4) (pg_sub (pe_fld (pv 0) rfl) (pe_ix ix_list (pv 1) pe_int (fun _ _ => rfl)) set_list))
      (pss_one (ps_ret (pe_lst (pa_cons (pe_callB call_len_seq (by rfl) mLen PySem.boot_len (pa_cons (pv 4) pa_nil)) pa_nil))))))))), ?_⟩
    refine ⟨_, rfl, _, rfl, ns, _, _, _, rfl, rfl, SqL.of hns, atI_nat (j := 0) rfl, x, zf, k, h, rfl, hS, fun h1 => ?_, fun h1 H1 p s1 hp => ?_⟩
    · refine kE (-2) ?_
      rw [es, if_pos h1]
    · have hL := hG.get k
      have l6 := hL.few
      refine ⟨_, rfl, 1, rfl, ns, _, rfl, SqL.of (s1 _ _ hns), fun c hc => .inl ⟨c, _, rfl, SqL.of upd_same, fun d hd => ?_⟩⟩
      have sc := same_new (o := .lst (cutV (iV (FC.nums (.fact k t a b))) (some 1) none)) hc
      have sd := same_new (o := .tup (cutV (iV (FC.nums (.fact k t a b))) (some 1) none)) hd
      have s2 := s1.trans (sc.trans sd)
      have hf : FAt (upd (upd H1 c (.lst (cutV (iV (FC.nums (.fact k t a b))) (some 1) none))) d (.tup (cutV (iV (FC.nums (.fact k t a b))) (some 1) none))) d ⟨t, a, b⟩ := by
        show _ = _
        rw [upd_same]
        rfl
      have hp2 := hp.same (sc.trans sd)
      refine ⟨_, _, rfl, ?_⟩
      generalize upd (upd H1 c (.lst (cutV (iV (FC.nums (.fact k t a b))) (some 1) none))) d (.tup (cutV (iV (FC.nums (.fact k t a b))) (some 1) none)) = H2 at hf hp2 s2
      refine ⟨_, rfl, d, fV ⟨t, a, b⟩, 0, .int (t : Int), rfl, rfl, SqT.of hf, atI_nat (j := 0) rfl, (by show 2 ≤ sizeLine; decide), fun z hz => ⟨z, _, rfl, .inr (SqT.of upd_same), rfl, rfl, inV (.int (t : Int)) [.int 0, .int 1], rfl, ?_⟩⟩
      have sz := same_new (o := .tup [V.int 0, V.int 1]) hz
      have s3 := s2.trans sz
      have hf3 : FAt _ d ⟨t, a, b⟩ := sz _ _ hf
      have hp3 := hp2.same sz
      generalize upd H2 z (.tup [V.int 0, V.int 1]) = H3 at hf3 hp3 s3
      rw [in01]
      by_cases ct : 1 < t
      · rw [decide_eq_false (show ¬ ¬ 1 < t by omega)]
        refine ⟨false, -1, rfl, fun z => Bool.noConfusion z, fun _ => (kE (-1) ?_).same s3⟩
        rw [es, if_neg h1, if_pos (.inl ct)]
      rw [decide_eq_true ct]
      refine ⟨_, rfl, d, fV ⟨t, a, b⟩, 1, .int (a : Int), rfl, rfl, SqT.of hf3, atI_nat (j := 1) rfl, a, rfl, _, rfl, ?_⟩
      cases ca : Dx03.isValue a with
      | false =>
        refine ⟨false, -1, rfl, fun z => Bool.noConfusion z, fun _ => (kE (-1) ?_).same s3⟩
        rw [es, if_neg h1, if_pos (.inr (.inl ca))]
      | true =>
        refine ⟨_, rfl, d, fV ⟨t, a, b⟩, 2, .int (b : Int), rfl, rfl, SqT.of hf3, atI_nat (j := 2) rfl, b, rfl, ?_⟩
        refine ⟨Dx03.isValue b, -1, rfl, fun cb => ?_, fun cb => (kE (-1) ?_).same s3⟩
        · have e2 : ¬ (1 < t ∨ Dx03.isValue a = false ∨ Dx03.isValue b = false) := by
            rw [ca, cb]
            simp [ct]
          have sm : Small ⟨t, a, b⟩ := ⟨(by show t < 200; omega), FC.isValue_lt ca, FC.isValue_lt cb⟩
          rw [if_neg h1, if_neg e2] at es
          refine ⟨_, rfl, _, rfl, fD ⟨t, a, b⟩, (h.get k).map fD, hf3.dp, hp3.dp, fD_shaped _, lD_shaped _, ?_⟩
          rw [lD_any]
          refine ⟨!(h.get k).contains ⟨t, a, b⟩, -4, rfl, fun cc => ?_, fun cc => (kE (-4) ?_).same s3⟩
          · rw [Bool.not_eq_true'] at cc
            rw [if_neg (by rw [cc]; decide)] at es
            have hno : (⟨t, a, b⟩ : Fact) ∉ h.get k := fun m => by
              rw [List.contains_iff_mem.mpr m] at cc
              cases cc
            obtain ⟨qs, hq1, hq2⟩ := id hp3
            refine ⟨_, rfl, _, rfl, (by show 1 ≤ sizeLine; decide), fun y hy => ?_⟩
            have sy := same_new (o := .lst [V.ref d]) hy
            refine ⟨p, y, _, _, rfl, rfl, sy _ _ hq1, upd_same, ?_, fun u hu => ?_⟩
            · rw [List.length_map, hq2.len]
              refine small_line ?_
              show (h.get k).length + 1 ≤ 10000000
              omega
            · have su := same_new (o := .lst (qs.map V.ref ++ [V.ref d])) hu
              have s5 := sy.trans su
              have hb : FRefs (upd (upd H3 y (.lst [V.ref d])) u (.lst (qs.map V.ref ++ [V.ref d]))) (qs ++ [d]) (h.get k ++ [⟨t, a, b⟩]) := FRefs.snoc (hq2.same s5) (s5 _ _ hf3)
              have em : (qs ++ [d]).map V.ref = qs.map V.ref ++ [V.ref d] := by
                rw [List.map_append]
                rfl
              have smA : ∀ g ∈ h.get k ++ [⟨t, a, b⟩], Small g := fun g hg => by
                rcases List.mem_append.mp hg with m | m
                · exact ⟨by have := hL.tab g m; omega, hL.val _ (FC.mem_flat.mpr ⟨g, m, .inl rfl⟩), hL.val _ (FC.mem_flat.mpr ⟨g, m, .inr rfl⟩)⟩
                · rw [List.mem_singleton.mp m]
                  exact sm
              have ndA : (h.get k ++ [(⟨t, a, b⟩ : Fact)]).Nodup := nd_snoc (FC.srt_nodup hL.srt) hno
              refine ⟨u, qs.map V.ref ++ [V.ref d], rfl, SqL.of upd_same, ?_, fun v hv => ?_, fun ys p2 pm srt hp4 => ?_⟩
              · rw [← em, List.length_map, hb.len, List.length_append]
                show (h.get k).length + 1 < 64
                omega
              · rw [← em] at hv
                obtain ⟨q, hq3, rfl⟩ := List.mem_map.mp hv
                obtain ⟨i, hi, e⟩ := List.mem_iff_getElem.mp hq3
                obtain ⟨g, hg1, hg2⟩ := hb.at (i := i) (q := q) (by rw [List.getElem?_eq_getElem hi, e])
                exact ⟨fI g, ⟨q, rfl, SqT.of hg2⟩, rfl, fI_bd (smA g (List.mem_of_getElem? hg1))⟩
              · rw [← em] at pm
                obtain ⟨cs, ls, e, hcs, hsrt, hmem⟩ := sorted_facts hb ndA smA pm srt
                obtain rfl := FC.put_of hL.srt hsrt hmem
                have s6 := same_new (o := .lst ys) hp4
                obtain ⟨oz, hzz⟩ := hzf
                have nz : p2 ≠ zf := Ne.symm (ne_of_none ((s3.trans s5) _ _ hzz) hp4)
                have s7 := s3.trans (s5.trans s6)
                have hput : FsAt (upd (upd (upd H3 y (.lst [V.ref d])) u (.lst (qs.map V.ref ++ [V.ref d]))) p2 (.lst ys)) p2 (Dx.put ⟨t, a, b⟩ (h.get k)) := ⟨cs, by rw [upd_same, e], hcs.same s6⟩
                have plen : (Dx.put ⟨t, a, b⟩ (h.get k)).length ≤ 7 := by
                  have q := FC.nodup_sub_len (FC.srt_nodup hsrt) (k := h.get k ++ [⟨t, a, b⟩]) fun g hg => (hmem g).mp hg
                  rw [List.length_append] at q
                  have q2 : (h.get k).length + [(⟨t, a, b⟩ : Fact)].length = (h.get k).length + 1 := rfl
                  omega
                generalize upd (upd (upd H3 y (.lst [V.ref d])) u (.lst (qs.map V.ref ++ [V.ref d]))) p2 (.lst ys) = H4 at hput s7
                obtain ⟨xs, q1, q2⟩ := hput.sq (K := K)
                unfold Dx03.FACTS Dx03.UNKNOWNS at es
                -- the store takes it
                have fin : ∀ (H5 : Hp), Same H4 H5 → ¬ (6 < (Dx.put ⟨t, a, b⟩ (h.get k)).length ∨ 4 < (Dx.unknowns (Dx.put ⟨t, a, b⟩ (h.get k))).length) → ∀ (pp dx p0 p1 : Addr), H5 x = some (.ins CS dx [(("facts" : Str), .ref pp)]) → H5 pp = some (.lst [.ref p0, .ref p1]) → FsAt H5 p0 h.one → FsAt H5 p1 h.two → p0 ≠ zf → p1 ≠ zf →
                    FsAt (upd H5 pp (.lst ([V.ref p0, V.ref p1].set k (.ref p2)))) p2 (Dx.put ⟨t, a, b⟩ (h.get k)) ∧ ∀ (r : Addr), upd H5 pp (.lst ([V.ref p0, V.ref p1].set k (.ref p2))) r = none → ∀ (n : Int), n = ((Dx.put ⟨t, a, b⟩ (h.get k)).length : Int) →
                      Q (.ref r) (upd (upd H5 pp (.lst ([V.ref p0, V.ref p1].set k (.ref p2)))) r (.lst [V.int n])) := fun H5 s8 hn pp dx p0 p1 g1 g2 g3 g4 z0 z1 => by
                  have hput5 := hput.same s8
                  obtain ⟨u1, u2⟩ := SAt.put h1 g1 g2 g3 g4 z0 z1 hput5 nz
                  refine ⟨hput5.upd g2 (hput5.ne g2 g3), fun r hr5 n en => ?_⟩
                  have s9 := same_new (o := .lst [V.int n]) hr5
                  refine kQ _ r ((s7.trans s8).free (free_upd hr5)) ((Keep.of (s7.trans s8)).trans (u2.trans (Keep.of s9))) ?_ ?_
                  · rw [es, if_neg hn]
                    exact u1.same s9
                  · rw [es, if_neg hn, upd_same, en]
                    rfl
                refine ⟨_, rfl, p2, xs, rfl, .inl q1, _, _, rfl, rfl, _, rfl, ?_⟩
                rw [q2]
                by_cases c6 : (Dx.put ⟨t, a, b⟩ (h.get k)).length ≤ 6
                · rw [decide_eq_true (show (((Dx.put ⟨t, a, b⟩ (h.get k)).length : Nat) : Int) ≤ 6 by omega)]
                  refine ⟨_, rfl, p2, _, rfl, hput, by omega, fun H5 r5 s8 hr5 => ?_⟩
                  refine ⟨r5, _, rfl, .inl (SqL.of hr5), _, _, rfl, rfl, ?_⟩
                  refine ⟨decide (((iV (Dx.unknowns (Dx.put ⟨t, a, b⟩ (h.get k)))).length : Int) ≤ 4), -7, rfl, fun c4 => ?_, fun c4 => (kE (-7) ?_).same (s7.trans s8)⟩
                  · rw [iV_len, decide_eq_true_eq] at c4
                    have hn : ¬ (6 < (Dx.put ⟨t, a, b⟩ (h.get k)).length ∨ 4 < (Dx.unknowns (Dx.put ⟨t, a, b⟩ (h.get k))).length) := by omega
                    have s9 := s7.trans s8
                    obtain ⟨dx, pp, p0, p1, g1, g2, g3, g4, z0, z1⟩ := hS.same s9
                    obtain ⟨f1, f2⟩ := fin H5 s8 hn pp dx p0 p1 g1 g2 g3 g4 z0 z1
                    refine ⟨_, rfl, _, rfl, x, CS, dx, _, _, rfl, g1, T.cl, T.nF, rfl, _, rfl, ns, _, _, _, rfl, rfl, SqL.of (s9 _ _ hns), atI_nat (j := 0) rfl, pp, _, (k : Int), k, rfl, rfl, g2, pair_ix h1, ?_⟩
                    obtain ⟨xs6, q3, q4⟩ := f1.sq (K := K)
                    refine ⟨_, rfl, p2, xs6, rfl, .inl q3, (by show 1 ≤ sizeLine; decide), fun r hr6 => ?_⟩
                    exact f2 r hr6 _ (by rw [q4])
                  · rw [iV_len, decide_eq_false_iff_not] at c4
                    rw [es, if_pos (.inr (by omega))]
                · rw [decide_eq_false (show ¬ (((Dx.put ⟨t, a, b⟩ (h.get k)).length : Nat) : Int) ≤ 6 by omega)]
                  refine ⟨false, -7, rfl, fun z => Bool.noConfusion z, fun _ => (kE (-7) ?_).same s7⟩
                  rw [es, if_pos (.inl (by omega))]
          · rw [Bool.not_eq_false'] at cc
            rw [es, if_pos cc]
        · rw [es, if_neg h1, if_pos (.inr (.inr cb))]
end
end FCW

/-! # Part 9. answer, answers -/
namespace FCW
open PySem PySem.Spec PyProof.Rows L2
open Dx (Fact Facts Map)
abbrev sAnswer : Stmt := topS 53
abbrev sAnswers : Stmt := topS 54
theorem scAnswer : FnScope ["stores", "sort", "numbers", "deed", "refusal"] ["stores", "sort", "numbers"] (defScope sAnswer) := ⟨rfl, rfl, rfl, by decide +kernel, rfl, by decide +kernel, by decide +kernel⟩
theorem scAnswers : FnScope ["calls", "stores", "found", "at", "sort", "numbers", "some"] ["calls"] (defScope sAnswers) := ⟨rfl, rfl, rfl, by decide +kernel, rfl, by decide +kernel, by decide +kernel⟩
/-- a local name's def is called; what it raises is wished for at the slots -/
def tCallLS (i : Nat) (f : Addr) (sp : Sp) (E : L2.St → XK) (t : TA) : TE := fun σ H Q => σ[i]? = some (some (.ref f)) ∧ t σ H fun vs H1 => sp vs H1 Q (E σ)
section
variable {X : Cx} {CX : CXT} {k i : Nat} {f : Addr} {fd : FuncData} {ps : List Str} {sp : Sp} {E : L2.St → XK} {x : Str} {p pos : Pos} {e : Expr} {es : List Expr} {t : TA}
theorem pe_callLS (F : FnOk X.prog X.w X.K X.mg X.base CX k f fd ps sp) (hr : Room k X.A) (hN : X.N[i]? = some x) (hv : Vis X.env.scope x) (hk : PySem.W.keepIn X.K (.ref f) = true) (hb : Binds X.K fd ps []) (hx : ∀ σ, PassesAt CX X σ (E σ)) (ha : PA X (e :: es) t)
    (hdb : (x == ("__debug__" : Str)) = false := by decide) (hcd : (x == ("__classdict__" : Str)) = false := by decide)
    (he : starEach (e :: es) X.env = (false, eval e X.env) :: starEach es X.env := by rfl) (hpl : (backTo pos (starEach es X.env)).any (·.1) = false := by rfl) : PE X (.Call (.Name x p) (e :: es) [] pos) (tCallLS i f sp E t) := by
  refine ⟨fun pins s σ H Q I h => ?_⟩
  obtain ⟨hs, ht⟩ := h
  refine wpAny_Call_Name_kw (thn ((pe_var (pos := p) hN hv hdb hcd).run pins s σ H (fun v H1 => v = .ref f ∧ H1 = H) I ⟨.ref f, hs, rfl, rfl⟩) fun u s1 ⟨v, H1, I1, r1, q1⟩ => ?_)
  obtain ⟨ev, eH⟩ := q1
  subst ev eH
  obtain rfl : u = Value.ref f := r1
  refine PySem.W.callWith_K (h₀ := X.base) I.ok.mod.kin hk (thn (ha.run pos pins s1 σ _ _ I1 ht) fun us s2 ⟨vs, H2, I2, r, q⟩ => ⟨I2.kIn, ?_⟩) he hpl
  exact run_fnS F hr hb (hx σ) I2 r q
end
/-- the table of the operations: each in its place -/
structure DeedsTxt (P : Program) (w : World) (K : PySem.W.Frag) (mg : Str → Option Value) (base : Heap) (CR CS : Addr) : Prop where
  ex : ∃ (aD : Addr) (fs : List Addr), mg "DEEDS" = some (.ref aD) ∧ (∀ H, SqT K H aD (fs.map V.ref)) ∧
    ∀ c : Dx03.Call, ∃ (f : Addr) (fd : FuncData) (ps : List Str), fs[FC.num c]? = some f ∧ FnOk P w K mg base (L2.CX P w) 25 f fd ps (spDeed CR CS c) ∧ PySem.W.keepIn K (.ref f) = true ∧ Binds K fd ps []
def spAnswer (CS : Addr) : Sp := fun vs H Q _ => ∃ (x ns z : Addr) (c : Dx03.Call) (h : Dx03.House), vs = [.ref x, .int (FC.num c : Nat), .ref ns] ∧ SAt CS z H x h ∧ (∃ o, H z = some o) ∧ FC.GoodH h ∧ H ns = some (.lst (iV (FC.nums c))) ∧
  (∀ (H' : Hp) (r : Addr), H r = none → Keep H H' → SAt CS z H' x (Dx03.step h c).1 → H' r = some (.lst ((Dx03Neutral.out (Dx03.step h c).2).map V.int)) → Q (.ref r) H')
section
variable {P : Program} {w : World} {K : PySem.W.Frag} {mg : Str → Option Value} {base : Heap} {CR CS fR fS : Addr}
theorem ok_answer (D : Def K mg "answer" sAnswer) (T : ClsTxt K mg CR CS fR fS) (TD : DeedsTxt P w K mg base CR CS) : Cal P w K mg base L2.CX0 26 "answer" (spAnswer CS) := by
  refine D.cal (ps := ["stores", "sort", "numbers"]) (fun _ _ _ _ _ _ us hl => match us, hl with | [_, _, _], _ => rfl) fun f fd F => ?_
  refine F.ok scAnswer (fun vs H Q E h => ?_) (fun cdv A outer s H vs Q E hr h => ?_)
  · obtain ⟨x, ns, z, c, h, rfl, _⟩ := h
    rfl
  · obtain ⟨x, ns, z, c, h, rfl, hS, hz, hG, hns, kQ⟩ := h
    obtain ⟨aD, fs, mD, hfs, hc⟩ := TD.ex
    obtain ⟨g, gd, ps, hg, G, kg, bg⟩ := hc c
    refine ⟨_, pss_cons (ps_set (i := 3) scAnswer.nd rfl (Or.inl rfl) (pe_ix ix_tup (pe_glob (v := .ref aD) rfl mD rfl) (pv 1) (fun _ _ => rfl)))
      (pss_one (ps_try_as (i := 4) (tb := fun W => tRet (tCallLS 3 g (spDeed CR CS c) (WE W) (tCons (tVar 0) (tCons (tVar 2) tNil)))) (ts := fun a cls d => tRet (tLst (tCons (tXf a cls d CR "code" (tVar 4)) tNil))) (Wout := fun _ _ _ _ => False) rfl rfl scAnswer.nd rfl rfl ⟨rfl, by decide, Or.inl T.gR⟩ takes0
        (fun W pn xe tk _ => pss_one (ps_ret (by exact (pe_callLS G hr rfl (Or.inl rfl) kg bg (fun σ => passAt tk σ) (by exact (pa_cons (pv 0) (pa_cons (pv 2) pa_nil)))))))
        (fun a oe cls d pn hz hf => pss_one (ps_ret (by exact (pe_lst (pa_cons (pe_xf T.xf T.nR hz hf (pv 4)) pa_nil))))))), ?_⟩
    refine ⟨_, rfl, aD, fs.map V.ref, (FC.num c : Nat), .ref g, rfl, rfl, hfs H, atI_nat (by rw [List.getElem?_map, hg]; rfl), ?_⟩
    refine ⟨rfl, _, rfl, _, rfl, x, ns, z, h, rfl, hS, hz, hG, hns, kQ, fun n en H' d s' ed => ?_⟩
    refine ⟨true, T.te, fun _ a0 ha0 => ?_, fun z => Bool.noConfusion z⟩
    refine ⟨_, rfl, rfl, rfl, d, _, _, rfl, ed, rfl, (by show 1 ≤ sizeLine; decide), fun r hr5 => ?_⟩
    have s5 := s'.trans (same_new (o := .lst [V.int n]) hr5)
    refine kQ _ r (s'.free hr5) (Keep.of s5) ?_ ?_
    · rw [en]
      exact hS.same s5
    · rw [en, upd_same]
      rfl
end
end FCW

namespace FCW
open PySem PySem.Spec PyProof.Rows L2
open Dx (Fact Facts Map)
def spSInit (CS : Addr) : Sp := fun vs H Q _ => ∃ (p dx : Addr), vs = [.ref p] ∧ H p = some (.ins CS dx []) ∧ ∀ H' : Hp, SAt CS p H' p Dx03.init → (∀ b o, H b = some o → b ≠ p → H' b = some o) → Q .non H'
def spAnswers (K : PySem.W.Frag) : Sp := fun vs H Q _ => ∃ (a : Addr) (l : List Int), vs = [.ref a] ∧ SqL K H a (l.map V.int) ∧ PyDx03.answers_asked l = true ∧ ∀ (H' : Hp) (p : Addr), H' p = some (.lst ((PyDx03.answers l).map V.int)) → Q (.ref p) H'
/-- a list of whole numbers is kept -/
theorem Keep.ints {H H' : Hp} {b : Addr} {js : List Int} (k : Keep H H') (h : H b = some (.lst (js.map V.int))) : H' b = some (.lst (js.map V.int)) := by
  refine k b _ h (fun _ _ _ z => nomatch z) fun p q z => ?_
  injection z with z
  cases js with
  | nil => cases z
  | cons j js =>
    rw [List.map_cons] at z
    injection z with z _
    cases z
theorem Keep.seq {K : PySem.W.Frag} {H H' : Hp} {b : Addr} {js : List Int} (k : Keep H H') (h : SqL K H b (js.map V.int)) : SqL K H' b (js.map V.int) := by
  rcases h with (h | ⟨o, h⟩) | h
  · exact .inl (.inl (k.ints h))
  · exact .inl (.inr ⟨o, k b _ h (fun _ _ _ z => nomatch z) (fun _ _ z => nomatch z)⟩)
  · exact .inr h
/-- the address kept free may be any that is not yet taken -/
theorem SAt.new {CS z z' : Addr} {H : Hp} {x : Addr} {h : Dx03.House} (hS : SAt CS z H x h) (hz : H z' = none) : SAt CS z' H x h := by
  obtain ⟨dx, pp, p0, p1, h1, h2, ⟨ts, h3, t3⟩, ⟨us, h4, t4⟩, _⟩ := hS
  exact ⟨dx, pp, p0, p1, h1, h2, ⟨ts, h3, t3⟩, ⟨us, h4, t4⟩, ne_of_none h3 hz, ne_of_none h4 hz⟩
/-- a write at the address kept free -/
theorem SAt.wr {CS z : Addr} {H : Hp} {x : Addr} {h : Dx03.House} {js : List Int} {ys : List V} (hS : SAt CS z H x h) (hz : H z = some (.lst (js.map V.int))) : SAt CS z (upd H z (.lst ys)) x h := by
  obtain ⟨dx, pp, p0, p1, h1, h2, h3, h4, n0, n1⟩ := hS
  have nx : x ≠ z := fun e => by
    rw [e, hz] at h1
    cases h1
  have np : pp ≠ z := fun e => by
    rw [e, hz] at h2
    injection h2 with h2
    injection h2 with h2
    cases js with
    | nil => cases h2
    | cons j js =>
      rw [List.map_cons] at h2
      injection h2 with h2 _
      cases h2
  exact ⟨dx, pp, p0, p1, (by rw [upd_ne nx]; exact h1), (by rw [upd_ne np]; exact h2), h3.upd hz n0, h4.upd hz n1, n0, n1⟩
/-- what is asked, after a write at the list of answers -/
theorem seq_wr {K : PySem.W.Frag} {H : Hp} {a z : Addr} {js : List Int} {ys : List V} (ha : SqL K H a (js.map V.int)) (hn : a ≠ z ∨ ∀ H', SqL K H' a (js.map V.int)) : SqL K (upd H z (.lst ys)) a (js.map V.int) := by
  rcases hn with hn | hn
  · rcases ha with (ha | ⟨o, ha⟩) | ha
    · exact .inl (.inl (by rw [upd_ne hn]; exact ha))
    · exact .inl (.inr ⟨o, by rw [upd_ne hn]; exact ha⟩)
    · exact .inr ha
  · exact hn _
theorem seq_ne {K : PySem.W.Frag} {H : Hp} {a z : Addr} {js : List Int} (ha : SqL K H a (js.map V.int)) (hz : H z = none) : a ≠ z ∨ ∀ H', SqL K H' a (js.map V.int) := by
  rcases ha with (ha | ⟨o, ha⟩) | ha
  · exact .inl (ne_of_none ha hz)
  · exact .inl (ne_of_none ha hz)
  · exact .inr fun _ => .inr ha
theorem cut_ints {l : List Int} {i n : Nat} {lo hi : Int} (e1 : lo = (i : Int)) (e2 : hi = ((i + n : Nat) : Int)) (h1 : i ≤ l.length) (h2 : i + n ≤ l.length) : cutV (l.map V.int) (some lo) (some hi) = ((l.drop i).take n).map V.int := by
  unfold cutV
  rw [e1, e2, HT.sIx_nat, HT.sIx_nat, List.length_map, Nat.min_eq_left h1, Nat.min_eq_left h2, ← List.map_drop, ← List.map_take]
  have e : i + n - i = n := by omega
  rw [e]
section
variable {P : Program} {w : World} {K : PySem.W.Frag} {mg : Str → Option Value} {base : Heap} {CR CS fR fS : Addr}
theorem ok_sinit (T : ClsTxt K mg CR CS fR fS) : ∃ fd, FnOk P w K mg base L2.CX0 1 fS fd ["self"] (spSInit CS) ∧ Binds K fd ["self"] [] := by
  obtain ⟨fd, F⟩ := T.FS
  refine ⟨fd, F.ok scSInit (fun vs H Q E h => ?_) (fun cdv A outer s H vs Q E hr h => ?_), F.binds fun _ _ _ _ _ _ us hl => match us, hl with | [_], _ => rfl⟩
  · obtain ⟨p, dx, rfl, _⟩ := h
    rfl
  · obtain ⟨x, dx, rfl, h1, h⟩ := h
    refine ⟨_, pss_one (ps_fld (pv 0) (pe_lst (pa_cons (pe_lst pa_nil) (pa_cons (pe_lst pa_nil) pa_nil))) rfl), ?_⟩
    refine ⟨(by show 0 ≤ sizeLine; decide), fun a ha => ⟨(by show 0 ≤ sizeLine; decide), fun b hb => ⟨(by show 2 ≤ sizeLine; decide), fun c hc => ?_⟩⟩⟩
    have s1 := same_new (o := .lst []) ha
    have s2 := same_new (o := .lst []) hb
    have s3 := same_new (o := .lst [V.ref a, V.ref b]) hc
    have hx := s3 _ _ (s2 _ _ (s1 _ _ h1))
    refine ⟨_, rfl, x, CS, dx, _, rfl, hx, T.cl, T.nF, (by show 0 < 1000; decide), ?_⟩
    have ea : FsAt (upd (upd (upd H a (.lst [])) b (.lst [])) c (.lst [V.ref a, V.ref b])) a [] := ⟨[], s3 _ _ (s2 _ _ upd_same), .nil⟩
    have eb : FsAt (upd (upd (upd H a (.lst [])) b (.lst [])) c (.lst [V.ref a, V.ref b])) b [] := ⟨[], s3 _ _ upd_same, .nil⟩
    have nxc : c ≠ x := Ne.symm (ne_of_none (s2 _ _ (s1 _ _ h1)) hc)
    have nxa : a ≠ x := Ne.symm (ne_of_none h1 ha)
    have nxb : b ≠ x := Ne.symm (ne_of_none (s1 _ _ h1) hb)
    refine h _ ⟨dx, c, a, b, ?_, ?_, ⟨[], ?_, .nil⟩, ⟨[], ?_, .nil⟩, nxa, nxb⟩ fun g o e ng => ?_
    · rw [upd_same]
      rfl
    · rw [upd_ne nxc, upd_same]
    · rw [upd_ne nxa]
      exact s3 _ _ (s2 _ _ upd_same)
    · rw [upd_ne nxb]
      exact s3 _ _ upd_same
    · rw [upd_ne ng]
      exact s3 _ _ (s2 _ _ (s1 _ _ e))
theorem ok_answers {f : Addr} {fd : FuncData} (F : L2.Fun K "answers" "answers" sAnswers f fd) (T : ClsTxt K mg CR CS fR fS) (cA : Cal P w K mg base L2.CX0 26 "answer" (spAnswer CS)) (mLen : mg "len" = none) (aN : ∃ aN, mg "NUMBERS" = some (.ref aN) ∧ ∀ H, SqT K H aN (iV FC.needs)) : FnOk P w K mg base L2.CX0 28 f fd ["calls"] (spAnswers K) := by
  refine F.ok scAnswers (fun vs H Q E h => ?_) (fun cdv A outer s H vs Q E hr h => ?_)
  · obtain ⟨a, l, rfl, _⟩ := h
    rfl
  · obtain ⟨a, l, rfl, hl, hask, kQ⟩ := h
    obtain ⟨fdS, F1, B1⟩ := ok_sinit (P := P) (w := w) (base := base) T
    obtain ⟨aN, mN, hN⟩ := aN
    obtain ⟨cs0, ecs, hall, eans, hsmall⟩ := FC.asked_is hask
    have hr1 : Room 2 (A.deeper (envOfC "answers" (defScope sAnswers) s.heap.objs.size f cdv)) := hr.mono (by decide)
    refine ⟨_, pss_cons (ps_par (i := 1) (j := 2) (by rfl) scAnswers.nd rfl rfl (by decide) rfl rfl (pa_cons (pe_make0 T.mkS F1 hr1 rfl T.gS B1 .nil L2.pass0) (pa_cons (pe_lst pa_nil) pa_nil)) (by rfl))
      (pss_cons (ps_set (i := 3) scAnswers.nd rfl (Or.inl rfl) pe_int)
      (pss_cons (ps_while PassesOwn.never (pt_cmpR op_lt (pv 3) (pe_callB call_len_seq (by rfl) mLen PySem.boot_len (pa_cons (pv 0) pa_nil)) (nomark _))
        (pss_cons (ps_set (i := 4) scAnswers.nd rfl (Or.inl rfl) (pe_ix ix_list (pv 0) (pv 3) (fun _ _ => rfl)))
        (pss_cons (ps_set (i := 5) scAnswers.nd rfl (Or.inl rfl) (pe_slice sl_list (pv 0) (po_some (pe_op op_add (pv 3) pe_int)) (po_some (pe_op op_add (pe_op op_add (pv 3) pe_int) (pe_ix ix_tup (pe_glob (v := .ref aN) rfl mN rfl) (pv 4) (fun _ _ => rfl))))))
        (pss_cons (ps_aug (i := 3) scAnswers.nd rfl (Or.inl rfl) (pe_op op_add pe_int (pe_callB call_len_seq (by rfl) mLen PySem.boot_len (pa_cons (pv 5) pa_nil))) ip_add)
        (pss_cons (ps_set (i := 6) scAnswers.nd rfl (Or.inl rfl) (pe_c cA hr (by decide) (by rfl) (pa_cons (pv 1) (pa_cons (pv 4) (pa_cons (pv 5) pa_nil)))))
        (pss_cons (ps_expr (pe_bm PySem.F.plainAttrs_list PySem.F.slot_list_append PySem.F.type_list_append mt_append (pv 2) (pa_cons (pe_callB call_len_seq (by rfl) mLen PySem.boot_len (pa_cons (pv 6) pa_nil)) pa_nil)))
        (pss_one (ps_expr (pe_bm PySem.F.plainAttrs_list PySem.F.slot_list_extend PySem.F.type_list_extend mt_extend (pv 2) (pa_cons (pv 6) pa_nil))))))))))
      (pss_one (ps_ret (pv 2))))), ?_⟩
    intro x dx nx ndx ndxx
    have sI : Same H (upd (upd H dx (.own x)) x (.ins CS dx [])) := fun b o e => by
      rw [upd_ne (ne_of_none e nx), upd_ne (ne_of_none e ndx)]
      exact e
    refine ⟨x, dx, rfl, upd_same, fun H1 hS1 kp => ⟨rfl, (by show 0 ≤ sizeLine; decide), fun fd5 hfd => ⟨_, _, rfl, ?_⟩⟩⟩
    have s1 : Same H H1 := fun b o e => kp b o (sI b o e) (ne_of_none e nx)
    have sf := same_new (o := .lst []) hfd
    have s2 := s1.trans sf
    have hna := seq_ne (s1.seq hl) hfd
    refine ⟨fun m σ H' => ∃ (at_ g : Nat) (cs : List (List (List Int))) (h : Dx03.House) (Fs : List Int) (v4 v5 v6 : Option V), σ = [some (.ref a), some (.ref x), some (.ref fd5), some (.int (at_ : Int)), v4, v5, v6] ∧ SAt CS fd5 H' x h ∧ FC.GoodH h ∧ H' fd5 = some (.lst (Fs.map V.int)) ∧ SqL K H' a (l.map V.int) ∧
        PyFlat.calls PyDx03.shape g (l.drop at_) = some cs ∧ (∀ c ∈ cs, Dx03Neutral.asked1 c = true) ∧ at_ ≤ l.length ∧ Fs ++ FC.due h cs = PyDx03.answers l ∧ m = l.length - at_,
      ⟨_, 0, l.length, cs0, Dx03.init, [], none, none, none, rfl, (hS1.new hfd).same sf, FC.goodH_init, upd_same, s2.seq hl, ecs, hall, Nat.zero_le _, eans.symm, rfl⟩, ?_⟩
    rintro m σ H' ⟨at_, g, cs, h, Fs, v4, v5, v6, rfl, hS, hG, hF, hl5, ec, hal, hle, edue, rfl⟩
    refine ⟨_, rfl, _, rfl, a, _, rfl, .inl hl5, _, _, rfl, rfl, _, rfl, ?_⟩
    rw [List.length_map]
    by_cases c : at_ < l.length
    · rw [decide_eq_true (show (at_ : Int) < ((l.length : Nat) : Int) by omega)]
      have ed : l.drop at_ = l[at_] :: l.drop (at_ + 1) := List.drop_eq_getElem_cons c
      rw [ed] at ec
      obtain ⟨g', n, cs', hn, ecs', ec'⟩ := FC.calls_cons ec
      subst ecs'
      obtain ⟨cl, e1, e2, e3⟩ := FC.asked_call (hal _ List.mem_cons_self)
      have hn2 : n = (FC.nums cl).length := by
        have q := congrArg List.length e3
        rw [List.length_take, Nat.min_eq_left hn] at q
        rw [q]
        exact List.length_map _
      have hlen : at_ + 1 + n ≤ l.length := by
        rw [List.length_drop] at hn
        omega
      rw [FC.due_cons e1] at edue
      have hout : Fs.length + 1 + (Dx03Neutral.out (Dx03.step h cl).2).length ≤ 10000000 := by
        have q := congrArg List.length edue
        rw [List.length_append, List.length_cons, List.length_append] at q
        omega
      refine ⟨fun σ' H2 => ∃ (h' : Dx03.House) (Fs' : List Int) (v4 v5 v6 : Option V), σ' = [some (.ref a), some (.ref x), some (.ref fd5), some (.int ((at_ + (1 + n) : Nat) : Int)), v4, v5, v6] ∧ SAt CS fd5 H2 x h' ∧ FC.GoodH h' ∧ H2 fd5 = some (.lst (Fs'.map V.int)) ∧ SqL K H2 a (l.map V.int) ∧ Fs' ++ FC.due h' cs' = PyDx03.answers l, ?_, ?_⟩
      · rintro σ' H2 ⟨h', Fs', w4, w5, w6, rfl, j1, j2, j3, j4, j5⟩
        refine ⟨l.length - (at_ + (1 + n)), by omega, at_ + (1 + n), g', cs', h', Fs', w4, w5, w6, rfl, j1, j2, j3, j4, ?_, fun q hq => hal q (List.mem_cons_of_mem _ hq), by omega, j5, rfl⟩
        have e : l.drop (at_ + (1 + n)) = (l.drop (at_ + 1)).drop n := by
          rw [List.drop_drop]
          congr 1
          omega
        rw [e]
        exact ec'
      · refine ⟨_, rfl, _, rfl, a, _, (at_ : Int), .int ((FC.num cl : Nat) : Int), rfl, rfl, hl5, atI_nat (by rw [List.getElem?_map, List.getElem?_eq_getElem c, e2]; rfl), ?_⟩
        refine ⟨_, rfl, _, rfl, _, _, rfl, rfl, _, rfl, _, rfl, _, _, rfl, rfl, _, rfl, aN, iV FC.needs, ((FC.num cl : Nat) : Int), .int (((FC.nums cl).length : Nat) : Int), rfl, rfl, hN _, atI_nat (iV_get (FC.needs_at cl)), _, _, rfl, rfl, _, rfl, a, _, rfl, hl5, fun q hq => ?_⟩
        have ecut : cutV (l.map V.int) (some ((at_ : Int) + 1)) (some ((at_ : Int) + 1 + (((FC.nums cl).length : Nat) : Int))) = iV (FC.nums cl) := by
          rw [cut_ints (i := at_ + 1) (n := n) (by omega) (by omega) (by omega) hlen, e3, ← iV_ints]
        have sq := same_new (o := .lst (cutV (l.map V.int) (some ((at_ : Int) + 1)) (some ((at_ : Int) + 1 + (((FC.nums cl).length : Nat) : Int))))) hq
        have hq2 : upd H' q (.lst (cutV (l.map V.int) (some ((at_ : Int) + 1)) (some ((at_ : Int) + 1 + (((FC.nums cl).length : Nat) : Int))))) q = some (.lst (iV (FC.nums cl))) := by
          rw [upd_same, ecut]
        refine ⟨_, rfl, _, rfl, q, _, rfl, .inl (SqL.of hq2), _, _, rfl, rfl, _, _, rfl, rfl, ?_⟩
        refine ⟨_, rfl, _, rfl, _, rfl, x, q, fd5, cl, h, rfl, hS.same sq, ⟨_, sq _ _ hF⟩, hG, hq2, fun H3 r hr3 k3 hS3 hr5 => ?_⟩
        have k4 := (Keep.of sq).trans k3
        have hF3 := k4.ints hF
        have hl3 := k4.seq hl5
        have nr : fd5 ≠ r := ne_of_none (sq _ _ hF) hr3
        refine ⟨_, rfl, .inl ⟨rfl, _, SqL.of hF3⟩, _, rfl, r, _, rfl, .inl (SqL.of hr5), fd5, _, _, rfl, rfl, hF3, ?_, ?_⟩
        · rw [List.length_map]
          exact small_line' (by omega)
        · refine ⟨_, rfl, .inl ⟨rfl, _, SqL.of upd_same⟩, _, rfl, fd5, r, _, (Dx03Neutral.out (Dx03.step h cl).2).map V.int, rfl, rfl, upd_same, by rw [upd_ne (Ne.symm nr)]; exact hr5, ?_, ?_⟩
          · rw [List.length_append, List.length_map, List.length_map]
            refine small_line ?_
            show Fs.length + 1 + (Dx03Neutral.out (Dx03.step h cl).2).length ≤ 10000000
            exact hout
          · refine ⟨(Dx03.step h cl).1, Fs ++ (((Dx03Neutral.out (Dx03.step h cl).2).length : Int) :: Dx03Neutral.out (Dx03.step h cl).2), some (.int ((FC.num cl : Nat) : Int)), some (.ref q), some (.ref r), ?_, (hS3.wr hF3).wr (js := Fs ++ [((Dx03Neutral.out (Dx03.step h cl).2).length : Int)]) ?_, FC.step_good hG cl, ?_, seq_wr (seq_wr hl3 hna) hna, ?_⟩
            · refine congrArg (fun z => [some (V.ref a), some (V.ref x), some (V.ref fd5), some (V.int z), some (.int ((FC.num cl : Nat) : Int)), some (.ref q), some (.ref r)]) ?_
              show (at_ : Int) + (1 + ((iV (FC.nums cl)).length : Int)) = ((at_ + (1 + n) : Nat) : Int)
              rw [iV_len, ← hn2]
              omega
            · rw [upd_same, List.map_append, List.length_map]
              rfl
            · rw [upd_same, List.map_append, List.map_cons, List.length_map, List.append_assoc]
              rfl
            · rw [List.append_assoc]
              exact edue
    · rw [decide_eq_false (show ¬ (at_ : Int) < ((l.length : Nat) : Int) by omega)]
      have e0 : l.drop at_ = [] := List.drop_eq_nil_of_le (by omega)
      rw [e0] at ec
      have e1 := FC.calls_nil ec
      subst e1
      rw [FC.due_nil, List.append_nil] at edue
      subst edue
      exact ⟨_, rfl, kQ H' fd5 hF⟩
end
end FCW

/-! # Part 11. All that the top has written; the calls, one behind the other -/
namespace FCW
open PySem PySem.Spec PyProof.Rows L2
open Dx (Fact Facts Map)
/-- a constant int -/
abbrev Cn (mg : Str → Option Value) (x : Str) (n : Int) : Prop := ∃ t, mg x = some (.int n t)
theorem cal_ref {P : Program} {w : World} {K : PySem.W.Frag} {mg : Str → Option Value} {base : Heap} {c : CXT} {k : Nat} {x : Str} {sp : Sp} {g : Addr} (C : Cal P w K mg base c k x sp) (e : mg x = some (.ref g)) :
    ∃ (fd : FuncData) (ps : List Str), FnOk P w K mg base c k g fd ps sp ∧ PySem.W.keepIn K (.ref g) = true ∧ Binds K fd ps [] := by
  obtain ⟨f, fd, ps, h1, h2, h3, h4⟩ := C.ex
  rw [e] at h2
  injection h2 with h2
  injection h2 with h2
  subst h2
  exact ⟨fd, ps, h1, h3, h4⟩
section
variable {P : Program} {w : World} {K : PySem.W.Frag} {mg : Str → Option Value} {base : Heap} {CR CS fR fS fA : Addr} {fdA : FuncData}
/-- the whole text -/
structure TopTxt (K : PySem.W.Frag) (mg : Str → Option Value) (CR CS fR fS fA : Addr) (fdA : FuncData) : Prop where
  T : ClsTxt K mg CR CS fR fS
  d_is_unknown : Def K mg "is_unknown" sIsUnknown
  d_values_of : Def K mg "values_of" sValuesOf
  d_unknowns_of : Def K mg "unknowns_of" sUnknownsOf
  d_without : Def K mg "without" sWithout
  d_mapped_value : Def K mg "mapped_value" sMappedValue
  d_mapped_fact : Def K mg "mapped_fact" sMappedFact
  d_mapped : Def K mg "mapped" sMapped
  d_is_settled : Def K mg "is_settled" sIsSettled
  d_may_go_on : Def K mg "may_go_on" sMayGoOn
  d_with_value : Def K mg "with_value" sWithValue
  d_first_behind : Def K mg "first_behind" sFirstBehind
  d_first_mapping : Def K mg "first_mapping" sFirstMapping
  d_does_map : Def K mg "does_map" sDoesMap
  d_first_alike : Def K mg "first_alike" sFirstAlike
  d_isomorphism : Def K mg "isomorphism" sIsomorphism
  d_is_redundant : Def K mg "is_redundant" sIsRedundant
  d_redundant_facts : Def K mg "redundant_facts" sRedundantFacts
  d_next_set : Def K mg "next_set" sNextSet
  d_core_of : Def K mg "core_of" sCoreOf
  d_renamed : Def K mg "renamed" sRenamed
  d_ask : Def K mg "ask" sAsk
  d_store_at : Def K mg "store_at" sStoreAt
  d_told : Def K mg "told" sTold
  d_mapping_told : Def K mg "mapping_told" sMappingTold
  d_is_value : Def K mg "is_value" sIsValue
  d_begins : Def K mg "begins" sBegins
  d_fact_added : Def K mg "fact_added" sFactAdded
  d_gone : Def K mg "gone" sGone
  d_facts_told : Def K mg "facts_told" sFactsTold
  d_core_told : Def K mg "core_told" sCoreTold
  d_spare : Def K mg "spare" sSpare
  d_map_told : Def K mg "map_told" sMapTold
  d_same : Def K mg "same" sSame
  d_alike : Def K mg "alike" sAlike
  d_keep : Def K mg "keep" sKeep
  d_answer : Def K mg "answer" sAnswer
  F : L2.Fun K "answers" "answers" sAnswers fA fdA
  cFU : Cn mg "FIRST_UNKNOWN" 100
  cMK : Cn mg "MOST_KNOWN" 19
  cMU : Cn mg "MOST_UNKNOWN" 199
  cMF : Cn mg "MOST_FACTS" 6
  cMN : Cn mg "MOST_UNKNOWNS" 4
  cBF : Cn mg "BAD_FACT" (-1)
  cNS : Cn mg "NO_STORE" (-2)
  cNF : Cn mg "NO_FACT" (-3)
  cTH : Cn mg "THERE" (-4)
  cFL : Cn mg "FULL" (-7)
  m_len : mg "len" = none
  m_sorted : mg "sorted" = none
  m_list : mg "list" = none
  m_dict : mg "dict" = none
  m_enumerate : mg "enumerate" = none
  m_tuple : mg "tuple" = none
  m_int : mg "int" = none
  aN : ∃ aN, mg "NUMBERS" = some (.ref aN) ∧ ∀ H, SqT K H aN (iV FC.needs)
  aD : ∃ (aD g0 g1 g2 g3 g4 g5 g6 g7 g8 g9 : Addr), mg "DEEDS" = some (.ref aD) ∧ (∀ H, SqT K H aD (([g0, g1, g2, g3, g4, g5, g6, g7, g8, g9] : List Addr).map V.ref)) ∧ mg "begins" = some (.ref g0) ∧ mg "fact_added" = some (.ref g1) ∧ mg "gone" = some (.ref g2) ∧ mg "facts_told" = some (.ref g3) ∧ mg "core_told" = some (.ref g4) ∧ mg "spare" = some (.ref g5) ∧ mg "map_told" = some (.ref g6) ∧ mg "same" = some (.ref g7) ∧ mg "alike" = some (.ref g8) ∧ mg "keep" = some (.ref g9)
theorem ok_all (X : TopTxt K mg CR CS fR fS fA fdA) : FnOk P w K mg base L2.CX0 28 fA fdA ["calls"] (spAnswers K) := by
  have T := X.T
  have isU := ok_is_unknown (P := P) (w := w) (base := base) X.d_is_unknown X.cFU
  have vO := ok_values_of (P := P) (w := w) (base := base) X.d_values_of X.m_sorted X.m_list
  have uO := ok_unknowns_of X.d_unknowns_of isU vO
  have wo := ok_without (P := P) (w := w) (base := base) X.d_without
  have mV := ok_mapped_value (P := P) (w := w) (base := base) X.d_mapped_value
  have mF := ok_mapped_fact X.d_mapped_fact mV
  have mA := ok_mapped X.d_mapped mF X.m_sorted X.m_list
  have iS := ok_is_settled X.d_is_settled isU
  have gO := ok_may_go_on X.d_may_go_on iS mF
  have wV := ok_with_value (P := P) (w := w) (base := base) X.d_with_value X.m_dict
  have fB := ok_first_behind X.d_first_behind gO vO wV X.m_len 12
  have fM := ok_first_mapping X.d_first_mapping fB uO
  have dM := ok_does_map X.d_does_map fM
  have fAl := ok_first_alike X.d_first_alike gO uO wV mA X.m_len 12
  have iso := ok_isomorphism X.d_isomorphism fAl uO
  have iR := ok_is_redundant X.d_is_redundant dM wo
  have rF := ok_redundant_facts X.d_redundant_facts iR
  have nX := ok_next_set X.d_next_set fM wo mA
  have cO := ok_core_of X.d_core_of nX X.m_len
  have rN := ok_renamed X.d_renamed uO mA X.m_enumerate
  have aS := ok_ask (P := P) (w := w) (base := base) X.d_ask T
  have sA := ok_store_at X.d_store_at T aS X.cNS
  have iV' := ok_is_value (P := P) (w := w) (base := base) X.d_is_value X.cMK X.cFU X.cMU
  have tO := ok_told (P := P) (w := w) (base := base) X.d_told X.m_len X.m_list
  have mT := ok_mapping_told (P := P) (w := w) (base := base) X.d_mapping_told X.m_sorted X.m_list
  have D : DeedsTxt P w K mg base CR CS := by
    obtain ⟨aD, g0, g1, g2, g3, g4, g5, g6, g7, g8, g9, hD, hs, e0, e1, e2, e3, e4, e5, e6, e7, e8, e9⟩ := X.aD
    refine ⟨aD, _, hD, hs, fun c => ?_⟩
    cases c with
    | begins => exact ⟨g0, let ⟨fd, ps, h⟩ := cal_ref (ok_begins X.d_begins T) e0; ⟨fd, ps, rfl, h⟩⟩
    | fact k t a b => exact ⟨g1, let ⟨fd, ps, h⟩ := cal_ref (ok_fact_added X.d_fact_added T sA aS iV' uO X.m_tuple X.m_len X.m_sorted X.cBF X.cTH X.cFL X.cMF X.cMN k t a b) e1; ⟨fd, ps, rfl, h⟩⟩
    | gone k t a b => exact ⟨g2, let ⟨fd, ps, h⟩ := cal_ref (ok_gone X.d_gone T sA aS wo X.m_tuple X.m_len X.cNF k t a b) e2; ⟨fd, ps, rfl, h⟩⟩
    | facts k => exact ⟨g3, let ⟨fd, ps, h⟩ := cal_ref (ok_facts_told X.d_facts_told sA tO k) e3; ⟨fd, ps, rfl, h⟩⟩
    | core k => exact ⟨g4, let ⟨fd, ps, h⟩ := cal_ref (ok_core_told X.d_core_told sA tO cO k) e4; ⟨fd, ps, rfl, h⟩⟩
    | spare k => exact ⟨g5, let ⟨fd, ps, h⟩ := cal_ref (ok_spare X.d_spare sA tO rF k) e5; ⟨fd, ps, rfl, h⟩⟩
    | map k => exact ⟨g6, let ⟨fd, ps, h⟩ := cal_ref (ok_map_told X.d_map_told T sA fM mT k) e6; ⟨fd, ps, rfl, h⟩⟩
    | same => exact ⟨g7, let ⟨fd, ps, h⟩ := cal_ref (ok_same X.d_same T dM X.m_int) e7; ⟨fd, ps, rfl, h⟩⟩
    | alike => exact ⟨g8, let ⟨fd, ps, h⟩ := cal_ref (ok_alike X.d_alike T iso mT) e8; ⟨fd, ps, rfl, h⟩⟩
    | keep k => exact ⟨g9, let ⟨fd, ps, h⟩ := cal_ref (ok_keep X.d_keep T sA cO rN tO X.cFU k) e9; ⟨fd, ps, rfl, h⟩⟩
  exact ok_answers X.F T (ok_answer X.d_answer T D) X.m_len X.aN
end
/-- an error of the class at S is what a clause naming S takes -/
theorem exm_own {K : PySem.W.Frag} {S : Addr} (h1 : PySem.W.subIn K (.ref S) (.type "BaseException") = some true) (h2 : PySem.W.isClsIn K S = true) (h3 : PySem.W.typeIn K (.ref S) = some (.type "type")) (h4 : PySem.W.subIn K (.ref S) (.ref S) = some true) :
    PySem.W.exmOne K (.ref S) (.ref S) = some true := by
  have q : ((PySem.W.clsIn K S).isSome && PySem.W.typeIn K (.ref S) == some (.type "type")) = true := by
    rw [show (PySem.W.clsIn K S).isSome = true from h2, h3]
    rfl
  have r : (PySem.W.subIn K (.ref S) (.type "BaseException") == some true) = true := by
    rw [h1]
    rfl
  unfold PySem.W.exmOne PySem.W.kitCls
  simp [r, q, h4]
theorem all_mk {P : Program} {w : World} {K : PySem.W.Frag} {h : Heap} {mg : Str → Option Value} {fa CR CS fR fS aN aD f0 f1 f2 f3 f4 f5 f6 f7 f8 f9 f10 f11 f12 f13 f14 f15 f16 f17 f18 f19 f20 f21 f22 f23 f24 f25 f26 f27 f28 f29 f30 f31 f32 f33 f34 f35 f36 : Addr} (X : K.In h) (G : h.Ns mainGlobals mg) (hfa : mg "answers" = some (.ref fa))
    {nm q : Str} {N : Addr} {bs : List Value} {sn : List Str} {sub : List Value} {ab : Bool} {col : Option Bool} {dd : Option Addr} {m0 m1 m2 m3 m5 : Option Value}
    {odR anR odS anS od0 an0 od1 an1 od2 an2 od3 an3 od4 an4 od5 an5 od6 an6 od7 an7 od8 an8 od9 an9 od10 an10 od11 an11 od12 an12 od13 an13 od14 an14 od15 an15 od16 an16 od17 an17 od18 an18 od19 an19 od20 an20 od21 an21 od22 an22 od23 an23 od24 an24 od25 an25 od26 an26 od27 an27 od28 an28 od29 an29 od30 an30 od31 an31 od32 an32 od33 an33 od34 an34 od35 an35 od36 an36 odN odD : Option Addr} {slR slS sl0 sl1 sl2 sl3 sl4 sl5 sl6 sl7 sl8 sl9 sl10 sl11 sl12 sl13 sl14 sl15 sl16 sl17 sl18 sl19 sl20 sl21 sl22 sl23 sl24 sl25 sl26 sl27 sl28 sl29 sl30 sl31 sl32 sl33 sl34 sl35 sl36 slN slD : Array (Option Value)}
    {ocR kVR dcR pmR cdR ctR ocS kVS dcS pmS cdS ctS oc0 kV0 dc0 pm0 cd0 ct0 oc1 kV1 dc1 pm1 cd1 ct1 oc2 kV2 dc2 pm2 cd2 ct2 oc3 kV3 dc3 pm3 cd3 ct3 oc4 kV4 dc4 pm4 cd4 ct4 oc5 kV5 dc5 pm5 cd5 ct5 oc6 kV6 dc6 pm6 cd6 ct6 oc7 kV7 dc7 pm7 cd7 ct7 oc8 kV8 dc8 pm8 cd8 ct8 oc9 kV9 dc9 pm9 cd9 ct9 oc10 kV10 dc10 pm10 cd10 ct10 oc11 kV11 dc11 pm11 cd11 ct11 oc12 kV12 dc12 pm12 cd12 ct12 oc13 kV13 dc13 pm13 cd13 ct13 oc14 kV14 dc14 pm14 cd14 ct14 oc15 kV15 dc15 pm15 cd15 ct15 oc16 kV16 dc16 pm16 cd16 ct16 oc17 kV17 dc17 pm17 cd17 ct17 oc18 kV18 dc18 pm18 cd18 ct18 oc19 kV19 dc19 pm19 cd19 ct19 oc20 kV20 dc20 pm20 cd20 ct20 oc21 kV21 dc21 pm21 cd21 ct21 oc22 kV22 dc22 pm22 cd22 ct22 oc23 kV23 dc23 pm23 cd23 ct23 oc24 kV24 dc24 pm24 cd24 ct24 oc25 kV25 dc25 pm25 cd25 ct25 oc26 kV26 dc26 pm26 cd26 ct26 oc27 kV27 dc27 pm27 cd27 ct27 oc28 kV28 dc28 pm28 cd28 ct28 oc29 kV29 dc29 pm29 cd29 ct29 oc30 kV30 dc30 pm30 cd30 ct30 oc31 kV31 dc31 pm31 cd31 ct31 oc32 kV32 dc32 pm32 cd32 ct32 oc33 kV33 dc33 pm33 cd33 ct33 oc34 kV34 dc34 pm34 cd34 ct34 oc35 kV35 dc35 pm35 cd35 ct35 oc36 kV36 dc36 pm36 cd36 ct36 : Value} {nN nD : Nat} {tFU tMK tMU tMF tMN tBF tNS tNF tTH tFL tN0 tN1 tN2 tN3 tN4 tN5 tN6 tN7 tN8 tN9 : Tok}
    (gR : PySem.W.nsIn K mainGlobals "Refusal" = some (some (.ref CR)))
    (xL : K.lookup CR = some (excClassObj nm q CR N bs [.type "ValueError", .type "Exception", .type "BaseException", .type "object"] true sn sub ab col dd m0 m1 m2 m3 m5 "ValueError.__new__"))
    (sa : PySem.W.findIn K (.ref CR) "__setattr__" = some (some (.builtin "object.__setattr__")))
    (ga : PySem.W.findIn K (.ref CR) "__getattribute__" = some (some (.builtin "BaseException.__getattribute__")))
    (gg : PySem.W.findIn K (.ref CR) "__getattr__" = some none)
    (nR : PySem.W.findIn K (.ref CR) "code" = some none)
    (iR : PySem.W.findIn K (.ref CR) "__init__" = some (some (.ref fR)))
    (tR : PySem.W.typeIn K (.ref fR) = some (.type "function"))
    (lR : K.lookup fR = some ⟨ocR, odR, .func (PySem.W.fnOf "__init__" "Refusal.__init__" (defArgs sRInit) (defBody sRInit) (defScope sRInit) .none kVR dcR pmR anR cdR ctR), slR⟩)
    (cR : PySem.W.codeIn K cdR "Refusal.__init__" = true)
    (kR : PySem.W.keepIn K (.ref fR) = true)
    (kC : PySem.W.keepIn K (.ref CR) = true)
    (eC : PySem.W.subIn K (.ref CR) (.type "BaseException") = some true)
    (tC : PySem.W.typeIn K (.ref CR) = some (.type "type"))
    (hC : PySem.W.hasDictIn K CR = true)
    (iC : PySem.W.isClsIn K CR = true)
    (sC : PySem.W.subIn K (.ref CR) (.ref CR) = some true)
    (gS : PySem.W.nsIn K mainGlobals "Stores" = some (some (.ref CS)))
    (iS : PySem.W.findIn K (.ref CS) "__init__" = some (some (.ref fS)))
    (fnS : PySem.W.isFn K (.ref fS) = true)
    (lS : K.lookup fS = some ⟨ocS, odS, .func (PySem.W.fnOf "__init__" "Stores.__init__" (defArgs sSInit) (defBody sSInit) (defScope sSInit) .none kVS dcS pmS anS cdS ctS), slS⟩)
    (cS : PySem.W.codeIn K cdS "Stores.__init__" = true)
    (kS : PySem.W.keepIn K (.ref fS) = true)
    (pg : PySem.W.plainGet K CS Str.empty = true)
    (hd : PySem.W.hasDictIn K CS = true)
    (po : PySem.W.plainOver K CS = true)
    (saS : PySem.W.findIn K (.ref CS) "__setattr__" = some (some (.builtin "object.__setattr__")))
    (mk : PySem.W.makesIn K CS = true)
    (kS2 : PySem.W.keepIn K (.ref CS) = true)
    (nF : PySem.W.findIn K (.ref CS) "facts" = some none)
    (a0 : PySem.W.nsIn K mainGlobals "is_unknown" = some (some (.ref f0)))
    (l0 : K.lookup f0 = some ⟨oc0, od0, .func (PySem.W.fnOf "is_unknown" "is_unknown" (defArgs sIsUnknown) (defBody sIsUnknown) (defScope sIsUnknown) .none kV0 dc0 pm0 an0 cd0 ct0), sl0⟩)
    (c0 : PySem.W.codeIn K cd0 "is_unknown" = true)
    (k0 : PySem.W.keepIn K (.ref f0) = true)
    (a1 : PySem.W.nsIn K mainGlobals "values_of" = some (some (.ref f1)))
    (l1 : K.lookup f1 = some ⟨oc1, od1, .func (PySem.W.fnOf "values_of" "values_of" (defArgs sValuesOf) (defBody sValuesOf) (defScope sValuesOf) .none kV1 dc1 pm1 an1 cd1 ct1), sl1⟩)
    (c1 : PySem.W.codeIn K cd1 "values_of" = true)
    (k1 : PySem.W.keepIn K (.ref f1) = true)
    (a2 : PySem.W.nsIn K mainGlobals "unknowns_of" = some (some (.ref f2)))
    (l2 : K.lookup f2 = some ⟨oc2, od2, .func (PySem.W.fnOf "unknowns_of" "unknowns_of" (defArgs sUnknownsOf) (defBody sUnknownsOf) (defScope sUnknownsOf) .none kV2 dc2 pm2 an2 cd2 ct2), sl2⟩)
    (c2 : PySem.W.codeIn K cd2 "unknowns_of" = true)
    (k2 : PySem.W.keepIn K (.ref f2) = true)
    (a3 : PySem.W.nsIn K mainGlobals "without" = some (some (.ref f3)))
    (l3 : K.lookup f3 = some ⟨oc3, od3, .func (PySem.W.fnOf "without" "without" (defArgs sWithout) (defBody sWithout) (defScope sWithout) .none kV3 dc3 pm3 an3 cd3 ct3), sl3⟩)
    (c3 : PySem.W.codeIn K cd3 "without" = true)
    (k3 : PySem.W.keepIn K (.ref f3) = true)
    (a4 : PySem.W.nsIn K mainGlobals "mapped_value" = some (some (.ref f4)))
    (l4 : K.lookup f4 = some ⟨oc4, od4, .func (PySem.W.fnOf "mapped_value" "mapped_value" (defArgs sMappedValue) (defBody sMappedValue) (defScope sMappedValue) .none kV4 dc4 pm4 an4 cd4 ct4), sl4⟩)
    (c4 : PySem.W.codeIn K cd4 "mapped_value" = true)
    (k4 : PySem.W.keepIn K (.ref f4) = true)
    (a5 : PySem.W.nsIn K mainGlobals "mapped_fact" = some (some (.ref f5)))
    (l5 : K.lookup f5 = some ⟨oc5, od5, .func (PySem.W.fnOf "mapped_fact" "mapped_fact" (defArgs sMappedFact) (defBody sMappedFact) (defScope sMappedFact) .none kV5 dc5 pm5 an5 cd5 ct5), sl5⟩)
    (c5 : PySem.W.codeIn K cd5 "mapped_fact" = true)
    (k5 : PySem.W.keepIn K (.ref f5) = true)
    (a6 : PySem.W.nsIn K mainGlobals "mapped" = some (some (.ref f6)))
    (l6 : K.lookup f6 = some ⟨oc6, od6, .func (PySem.W.fnOf "mapped" "mapped" (defArgs sMapped) (defBody sMapped) (defScope sMapped) .none kV6 dc6 pm6 an6 cd6 ct6), sl6⟩)
    (c6 : PySem.W.codeIn K cd6 "mapped" = true)
    (k6 : PySem.W.keepIn K (.ref f6) = true)
    (a7 : PySem.W.nsIn K mainGlobals "is_settled" = some (some (.ref f7)))
    (l7 : K.lookup f7 = some ⟨oc7, od7, .func (PySem.W.fnOf "is_settled" "is_settled" (defArgs sIsSettled) (defBody sIsSettled) (defScope sIsSettled) .none kV7 dc7 pm7 an7 cd7 ct7), sl7⟩)
    (c7 : PySem.W.codeIn K cd7 "is_settled" = true)
    (k7 : PySem.W.keepIn K (.ref f7) = true)
    (a8 : PySem.W.nsIn K mainGlobals "may_go_on" = some (some (.ref f8)))
    (l8 : K.lookup f8 = some ⟨oc8, od8, .func (PySem.W.fnOf "may_go_on" "may_go_on" (defArgs sMayGoOn) (defBody sMayGoOn) (defScope sMayGoOn) .none kV8 dc8 pm8 an8 cd8 ct8), sl8⟩)
    (c8 : PySem.W.codeIn K cd8 "may_go_on" = true)
    (k8 : PySem.W.keepIn K (.ref f8) = true)
    (a9 : PySem.W.nsIn K mainGlobals "with_value" = some (some (.ref f9)))
    (l9 : K.lookup f9 = some ⟨oc9, od9, .func (PySem.W.fnOf "with_value" "with_value" (defArgs sWithValue) (defBody sWithValue) (defScope sWithValue) .none kV9 dc9 pm9 an9 cd9 ct9), sl9⟩)
    (c9 : PySem.W.codeIn K cd9 "with_value" = true)
    (k9 : PySem.W.keepIn K (.ref f9) = true)
    (a10 : PySem.W.nsIn K mainGlobals "first_behind" = some (some (.ref f10)))
    (l10 : K.lookup f10 = some ⟨oc10, od10, .func (PySem.W.fnOf "first_behind" "first_behind" (defArgs sFirstBehind) (defBody sFirstBehind) (defScope sFirstBehind) .none kV10 dc10 pm10 an10 cd10 ct10), sl10⟩)
    (c10 : PySem.W.codeIn K cd10 "first_behind" = true)
    (k10 : PySem.W.keepIn K (.ref f10) = true)
    (a11 : PySem.W.nsIn K mainGlobals "first_mapping" = some (some (.ref f11)))
    (l11 : K.lookup f11 = some ⟨oc11, od11, .func (PySem.W.fnOf "first_mapping" "first_mapping" (defArgs sFirstMapping) (defBody sFirstMapping) (defScope sFirstMapping) .none kV11 dc11 pm11 an11 cd11 ct11), sl11⟩)
    (c11 : PySem.W.codeIn K cd11 "first_mapping" = true)
    (k11 : PySem.W.keepIn K (.ref f11) = true)
    (a12 : PySem.W.nsIn K mainGlobals "does_map" = some (some (.ref f12)))
    (l12 : K.lookup f12 = some ⟨oc12, od12, .func (PySem.W.fnOf "does_map" "does_map" (defArgs sDoesMap) (defBody sDoesMap) (defScope sDoesMap) .none kV12 dc12 pm12 an12 cd12 ct12), sl12⟩)
    (c12 : PySem.W.codeIn K cd12 "does_map" = true)
    (k12 : PySem.W.keepIn K (.ref f12) = true)
    (a13 : PySem.W.nsIn K mainGlobals "first_alike" = some (some (.ref f13)))
    (l13 : K.lookup f13 = some ⟨oc13, od13, .func (PySem.W.fnOf "first_alike" "first_alike" (defArgs sFirstAlike) (defBody sFirstAlike) (defScope sFirstAlike) .none kV13 dc13 pm13 an13 cd13 ct13), sl13⟩)
    (c13 : PySem.W.codeIn K cd13 "first_alike" = true)
    (k13 : PySem.W.keepIn K (.ref f13) = true)
    (a14 : PySem.W.nsIn K mainGlobals "isomorphism" = some (some (.ref f14)))
    (l14 : K.lookup f14 = some ⟨oc14, od14, .func (PySem.W.fnOf "isomorphism" "isomorphism" (defArgs sIsomorphism) (defBody sIsomorphism) (defScope sIsomorphism) .none kV14 dc14 pm14 an14 cd14 ct14), sl14⟩)
    (c14 : PySem.W.codeIn K cd14 "isomorphism" = true)
    (k14 : PySem.W.keepIn K (.ref f14) = true)
    (a15 : PySem.W.nsIn K mainGlobals "is_redundant" = some (some (.ref f15)))
    (l15 : K.lookup f15 = some ⟨oc15, od15, .func (PySem.W.fnOf "is_redundant" "is_redundant" (defArgs sIsRedundant) (defBody sIsRedundant) (defScope sIsRedundant) .none kV15 dc15 pm15 an15 cd15 ct15), sl15⟩)
    (c15 : PySem.W.codeIn K cd15 "is_redundant" = true)
    (k15 : PySem.W.keepIn K (.ref f15) = true)
    (a16 : PySem.W.nsIn K mainGlobals "redundant_facts" = some (some (.ref f16)))
    (l16 : K.lookup f16 = some ⟨oc16, od16, .func (PySem.W.fnOf "redundant_facts" "redundant_facts" (defArgs sRedundantFacts) (defBody sRedundantFacts) (defScope sRedundantFacts) .none kV16 dc16 pm16 an16 cd16 ct16), sl16⟩)
    (c16 : PySem.W.codeIn K cd16 "redundant_facts" = true)
    (k16 : PySem.W.keepIn K (.ref f16) = true)
    (a17 : PySem.W.nsIn K mainGlobals "next_set" = some (some (.ref f17)))
    (l17 : K.lookup f17 = some ⟨oc17, od17, .func (PySem.W.fnOf "next_set" "next_set" (defArgs sNextSet) (defBody sNextSet) (defScope sNextSet) .none kV17 dc17 pm17 an17 cd17 ct17), sl17⟩)
    (c17 : PySem.W.codeIn K cd17 "next_set" = true)
    (k17 : PySem.W.keepIn K (.ref f17) = true)
    (a18 : PySem.W.nsIn K mainGlobals "core_of" = some (some (.ref f18)))
    (l18 : K.lookup f18 = some ⟨oc18, od18, .func (PySem.W.fnOf "core_of" "core_of" (defArgs sCoreOf) (defBody sCoreOf) (defScope sCoreOf) .none kV18 dc18 pm18 an18 cd18 ct18), sl18⟩)
    (c18 : PySem.W.codeIn K cd18 "core_of" = true)
    (k18 : PySem.W.keepIn K (.ref f18) = true)
    (a19 : PySem.W.nsIn K mainGlobals "renamed" = some (some (.ref f19)))
    (l19 : K.lookup f19 = some ⟨oc19, od19, .func (PySem.W.fnOf "renamed" "renamed" (defArgs sRenamed) (defBody sRenamed) (defScope sRenamed) .none kV19 dc19 pm19 an19 cd19 ct19), sl19⟩)
    (c19 : PySem.W.codeIn K cd19 "renamed" = true)
    (k19 : PySem.W.keepIn K (.ref f19) = true)
    (a20 : PySem.W.nsIn K mainGlobals "ask" = some (some (.ref f20)))
    (l20 : K.lookup f20 = some ⟨oc20, od20, .func (PySem.W.fnOf "ask" "ask" (defArgs sAsk) (defBody sAsk) (defScope sAsk) .none kV20 dc20 pm20 an20 cd20 ct20), sl20⟩)
    (c20 : PySem.W.codeIn K cd20 "ask" = true)
    (k20 : PySem.W.keepIn K (.ref f20) = true)
    (a21 : PySem.W.nsIn K mainGlobals "store_at" = some (some (.ref f21)))
    (l21 : K.lookup f21 = some ⟨oc21, od21, .func (PySem.W.fnOf "store_at" "store_at" (defArgs sStoreAt) (defBody sStoreAt) (defScope sStoreAt) .none kV21 dc21 pm21 an21 cd21 ct21), sl21⟩)
    (c21 : PySem.W.codeIn K cd21 "store_at" = true)
    (k21 : PySem.W.keepIn K (.ref f21) = true)
    (a22 : PySem.W.nsIn K mainGlobals "told" = some (some (.ref f22)))
    (l22 : K.lookup f22 = some ⟨oc22, od22, .func (PySem.W.fnOf "told" "told" (defArgs sTold) (defBody sTold) (defScope sTold) .none kV22 dc22 pm22 an22 cd22 ct22), sl22⟩)
    (c22 : PySem.W.codeIn K cd22 "told" = true)
    (k22 : PySem.W.keepIn K (.ref f22) = true)
    (a23 : PySem.W.nsIn K mainGlobals "mapping_told" = some (some (.ref f23)))
    (l23 : K.lookup f23 = some ⟨oc23, od23, .func (PySem.W.fnOf "mapping_told" "mapping_told" (defArgs sMappingTold) (defBody sMappingTold) (defScope sMappingTold) .none kV23 dc23 pm23 an23 cd23 ct23), sl23⟩)
    (c23 : PySem.W.codeIn K cd23 "mapping_told" = true)
    (k23 : PySem.W.keepIn K (.ref f23) = true)
    (a24 : PySem.W.nsIn K mainGlobals "is_value" = some (some (.ref f24)))
    (l24 : K.lookup f24 = some ⟨oc24, od24, .func (PySem.W.fnOf "is_value" "is_value" (defArgs sIsValue) (defBody sIsValue) (defScope sIsValue) .none kV24 dc24 pm24 an24 cd24 ct24), sl24⟩)
    (c24 : PySem.W.codeIn K cd24 "is_value" = true)
    (k24 : PySem.W.keepIn K (.ref f24) = true)
    (a25 : PySem.W.nsIn K mainGlobals "begins" = some (some (.ref f25)))
    (l25 : K.lookup f25 = some ⟨oc25, od25, .func (PySem.W.fnOf "begins" "begins" (defArgs sBegins) (defBody sBegins) (defScope sBegins) .none kV25 dc25 pm25 an25 cd25 ct25), sl25⟩)
    (c25 : PySem.W.codeIn K cd25 "begins" = true)
    (k25 : PySem.W.keepIn K (.ref f25) = true)
    (a26 : PySem.W.nsIn K mainGlobals "fact_added" = some (some (.ref f26)))
    (l26 : K.lookup f26 = some ⟨oc26, od26, .func (PySem.W.fnOf "fact_added" "fact_added" (defArgs sFactAdded) (defBody sFactAdded) (defScope sFactAdded) .none kV26 dc26 pm26 an26 cd26 ct26), sl26⟩)
    (c26 : PySem.W.codeIn K cd26 "fact_added" = true)
    (k26 : PySem.W.keepIn K (.ref f26) = true)
    (a27 : PySem.W.nsIn K mainGlobals "gone" = some (some (.ref f27)))
    (l27 : K.lookup f27 = some ⟨oc27, od27, .func (PySem.W.fnOf "gone" "gone" (defArgs sGone) (defBody sGone) (defScope sGone) .none kV27 dc27 pm27 an27 cd27 ct27), sl27⟩)
    (c27 : PySem.W.codeIn K cd27 "gone" = true)
    (k27 : PySem.W.keepIn K (.ref f27) = true)
    (a28 : PySem.W.nsIn K mainGlobals "facts_told" = some (some (.ref f28)))
    (l28 : K.lookup f28 = some ⟨oc28, od28, .func (PySem.W.fnOf "facts_told" "facts_told" (defArgs sFactsTold) (defBody sFactsTold) (defScope sFactsTold) .none kV28 dc28 pm28 an28 cd28 ct28), sl28⟩)
    (c28 : PySem.W.codeIn K cd28 "facts_told" = true)
    (k28 : PySem.W.keepIn K (.ref f28) = true)
    (a29 : PySem.W.nsIn K mainGlobals "core_told" = some (some (.ref f29)))
    (l29 : K.lookup f29 = some ⟨oc29, od29, .func (PySem.W.fnOf "core_told" "core_told" (defArgs sCoreTold) (defBody sCoreTold) (defScope sCoreTold) .none kV29 dc29 pm29 an29 cd29 ct29), sl29⟩)
    (c29 : PySem.W.codeIn K cd29 "core_told" = true)
    (k29 : PySem.W.keepIn K (.ref f29) = true)
    (a30 : PySem.W.nsIn K mainGlobals "spare" = some (some (.ref f30)))
    (l30 : K.lookup f30 = some ⟨oc30, od30, .func (PySem.W.fnOf "spare" "spare" (defArgs sSpare) (defBody sSpare) (defScope sSpare) .none kV30 dc30 pm30 an30 cd30 ct30), sl30⟩)
    (c30 : PySem.W.codeIn K cd30 "spare" = true)
    (k30 : PySem.W.keepIn K (.ref f30) = true)
    (a31 : PySem.W.nsIn K mainGlobals "map_told" = some (some (.ref f31)))
    (l31 : K.lookup f31 = some ⟨oc31, od31, .func (PySem.W.fnOf "map_told" "map_told" (defArgs sMapTold) (defBody sMapTold) (defScope sMapTold) .none kV31 dc31 pm31 an31 cd31 ct31), sl31⟩)
    (c31 : PySem.W.codeIn K cd31 "map_told" = true)
    (k31 : PySem.W.keepIn K (.ref f31) = true)
    (a32 : PySem.W.nsIn K mainGlobals "same" = some (some (.ref f32)))
    (l32 : K.lookup f32 = some ⟨oc32, od32, .func (PySem.W.fnOf "same" "same" (defArgs sSame) (defBody sSame) (defScope sSame) .none kV32 dc32 pm32 an32 cd32 ct32), sl32⟩)
    (c32 : PySem.W.codeIn K cd32 "same" = true)
    (k32 : PySem.W.keepIn K (.ref f32) = true)
    (a33 : PySem.W.nsIn K mainGlobals "alike" = some (some (.ref f33)))
    (l33 : K.lookup f33 = some ⟨oc33, od33, .func (PySem.W.fnOf "alike" "alike" (defArgs sAlike) (defBody sAlike) (defScope sAlike) .none kV33 dc33 pm33 an33 cd33 ct33), sl33⟩)
    (c33 : PySem.W.codeIn K cd33 "alike" = true)
    (k33 : PySem.W.keepIn K (.ref f33) = true)
    (a34 : PySem.W.nsIn K mainGlobals "keep" = some (some (.ref f34)))
    (l34 : K.lookup f34 = some ⟨oc34, od34, .func (PySem.W.fnOf "keep" "keep" (defArgs sKeep) (defBody sKeep) (defScope sKeep) .none kV34 dc34 pm34 an34 cd34 ct34), sl34⟩)
    (c34 : PySem.W.codeIn K cd34 "keep" = true)
    (k34 : PySem.W.keepIn K (.ref f34) = true)
    (a35 : PySem.W.nsIn K mainGlobals "answer" = some (some (.ref f35)))
    (l35 : K.lookup f35 = some ⟨oc35, od35, .func (PySem.W.fnOf "answer" "answer" (defArgs sAnswer) (defBody sAnswer) (defScope sAnswer) .none kV35 dc35 pm35 an35 cd35 ct35), sl35⟩)
    (c35 : PySem.W.codeIn K cd35 "answer" = true)
    (k35 : PySem.W.keepIn K (.ref f35) = true)
    (a36 : PySem.W.nsIn K mainGlobals "answers" = some (some (.ref f36)))
    (l36 : K.lookup f36 = some ⟨oc36, od36, .func (PySem.W.fnOf "answers" "answers" (defArgs sAnswers) (defBody sAnswers) (defScope sAnswers) .none kV36 dc36 pm36 an36 cd36 ct36), sl36⟩)
    (c36 : PySem.W.codeIn K cd36 "answers" = true)
    (k36 : PySem.W.keepIn K (.ref f36) = true)
    (vFU : PySem.W.nsIn K mainGlobals "FIRST_UNKNOWN" = some (some (.int 100 tFU)))
    (vMK : PySem.W.nsIn K mainGlobals "MOST_KNOWN" = some (some (.int 19 tMK)))
    (vMU : PySem.W.nsIn K mainGlobals "MOST_UNKNOWN" = some (some (.int 199 tMU)))
    (vMF : PySem.W.nsIn K mainGlobals "MOST_FACTS" = some (some (.int 6 tMF)))
    (vMN : PySem.W.nsIn K mainGlobals "MOST_UNKNOWNS" = some (some (.int 4 tMN)))
    (vBF : PySem.W.nsIn K mainGlobals "BAD_FACT" = some (some (.int (-1) tBF)))
    (vNS : PySem.W.nsIn K mainGlobals "NO_STORE" = some (some (.int (-2) tNS)))
    (vNF : PySem.W.nsIn K mainGlobals "NO_FACT" = some (some (.int (-3) tNF)))
    (vTH : PySem.W.nsIn K mainGlobals "THERE" = some (some (.int (-4) tTH)))
    (vFL : PySem.W.nsIn K mainGlobals "FULL" = some (some (.int (-7) tFL)))
    (z_len : PySem.W.nsIn K mainGlobals "len" = some none)
    (z_sorted : PySem.W.nsIn K mainGlobals "sorted" = some none)
    (z_list : PySem.W.nsIn K mainGlobals "list" = some none)
    (z_dict : PySem.W.nsIn K mainGlobals "dict" = some none)
    (z_enumerate : PySem.W.nsIn K mainGlobals "enumerate" = some none)
    (z_tuple : PySem.W.nsIn K mainGlobals "tuple" = some none)
    (z_int : PySem.W.nsIn K mainGlobals "int" = some none)
    (gN : PySem.W.nsIn K mainGlobals "NUMBERS" = some (some (.ref aN)))
    (lN : K.lookup aN = some ⟨.type "tuple", odN, .seq #[.int 0 tN0, .int 4 tN1, .int 4 tN2, .int 1 tN3, .int 1 tN4, .int 1 tN5, .int 1 tN6, .int 0 tN7, .int 0 tN8, .int 1 tN9] nN, slN⟩)
    (gD : PySem.W.nsIn K mainGlobals "DEEDS" = some (some (.ref aD)))
    (lD : K.lookup aD = some ⟨.type "tuple", odD, .seq #[.ref f25, .ref f26, .ref f27, .ref f28, .ref f29, .ref f30, .ref f31, .ref f32, .ref f33, .ref f34] nD, slD⟩)
    : ∃ fd : FuncData, (∀ (s : Shared) (us : List Value), us.length = (["calls"] : List Str).length → BindsTo s fd ⟨us, []⟩ ((["calls"] : List Str).zip us)) ∧ ∀ base : Heap, K.In base → base.Ns mainGlobals mg → FnOk P w K mg base CX0 28 fa fd ["calls"] (spAnswers K) := by
  have e := hfa.symm.trans (PySem.W.mg_of X G a36)
  injection e with e
  injection e with e
  subst e
  have T : ClsTxt K mg CR CS fR fS :=
    { oex := ⟨⟨nm, q, N, bs, _, sn, sub, ab, col, dd, m0, m1, m2, m3, m5, xL, by decide +kernel⟩, sa, eC, tC, kC⟩, xf := ⟨ga, gg, eC, hC⟩, iR := iR, tR := tR, nR := nR, gR := PySem.W.mg_of X G gR, te := exm_own eC iC tC sC,
      FR := ⟨_, fun_mk (st := sRInit) lR cR kR⟩, cl := ⟨pg, hd, po, saS⟩, mkS := ⟨mk, iS, fnS, kS2⟩, nF := nF, gS := PySem.W.mg_of X G gS, FS := ⟨_, fun_mk (st := sSInit) lS cS kS⟩ }
  have F := fun_mk (st := sAnswers) l36 c36 k36
  have Y : TopTxt K mg CR CS fR fS fa _ :=
    { T := T, F := F
      d_is_unknown := ⟨f0, _, fun_mk (st := sIsUnknown) l0 c0 k0, PySem.W.mg_of X G a0⟩
      d_values_of := ⟨f1, _, fun_mk (st := sValuesOf) l1 c1 k1, PySem.W.mg_of X G a1⟩
      d_unknowns_of := ⟨f2, _, fun_mk (st := sUnknownsOf) l2 c2 k2, PySem.W.mg_of X G a2⟩
      d_without := ⟨f3, _, fun_mk (st := sWithout) l3 c3 k3, PySem.W.mg_of X G a3⟩
      d_mapped_value := ⟨f4, _, fun_mk (st := sMappedValue) l4 c4 k4, PySem.W.mg_of X G a4⟩
      d_mapped_fact := ⟨f5, _, fun_mk (st := sMappedFact) l5 c5 k5, PySem.W.mg_of X G a5⟩
      d_mapped := ⟨f6, _, fun_mk (st := sMapped) l6 c6 k6, PySem.W.mg_of X G a6⟩
      d_is_settled := ⟨f7, _, fun_mk (st := sIsSettled) l7 c7 k7, PySem.W.mg_of X G a7⟩
      d_may_go_on := ⟨f8, _, fun_mk (st := sMayGoOn) l8 c8 k8, PySem.W.mg_of X G a8⟩
      d_with_value := ⟨f9, _, fun_mk (st := sWithValue) l9 c9 k9, PySem.W.mg_of X G a9⟩
      d_first_behind := ⟨f10, _, fun_mk (st := sFirstBehind) l10 c10 k10, PySem.W.mg_of X G a10⟩
      d_first_mapping := ⟨f11, _, fun_mk (st := sFirstMapping) l11 c11 k11, PySem.W.mg_of X G a11⟩
      d_does_map := ⟨f12, _, fun_mk (st := sDoesMap) l12 c12 k12, PySem.W.mg_of X G a12⟩
      d_first_alike := ⟨f13, _, fun_mk (st := sFirstAlike) l13 c13 k13, PySem.W.mg_of X G a13⟩
      d_isomorphism := ⟨f14, _, fun_mk (st := sIsomorphism) l14 c14 k14, PySem.W.mg_of X G a14⟩
      d_is_redundant := ⟨f15, _, fun_mk (st := sIsRedundant) l15 c15 k15, PySem.W.mg_of X G a15⟩
      d_redundant_facts := ⟨f16, _, fun_mk (st := sRedundantFacts) l16 c16 k16, PySem.W.mg_of X G a16⟩
      d_next_set := ⟨f17, _, fun_mk (st := sNextSet) l17 c17 k17, PySem.W.mg_of X G a17⟩
      d_core_of := ⟨f18, _, fun_mk (st := sCoreOf) l18 c18 k18, PySem.W.mg_of X G a18⟩
      d_renamed := ⟨f19, _, fun_mk (st := sRenamed) l19 c19 k19, PySem.W.mg_of X G a19⟩
      d_ask := ⟨f20, _, fun_mk (st := sAsk) l20 c20 k20, PySem.W.mg_of X G a20⟩
      d_store_at := ⟨f21, _, fun_mk (st := sStoreAt) l21 c21 k21, PySem.W.mg_of X G a21⟩
      d_told := ⟨f22, _, fun_mk (st := sTold) l22 c22 k22, PySem.W.mg_of X G a22⟩
      d_mapping_told := ⟨f23, _, fun_mk (st := sMappingTold) l23 c23 k23, PySem.W.mg_of X G a23⟩
      d_is_value := ⟨f24, _, fun_mk (st := sIsValue) l24 c24 k24, PySem.W.mg_of X G a24⟩
      d_begins := ⟨f25, _, fun_mk (st := sBegins) l25 c25 k25, PySem.W.mg_of X G a25⟩
      d_fact_added := ⟨f26, _, fun_mk (st := sFactAdded) l26 c26 k26, PySem.W.mg_of X G a26⟩
      d_gone := ⟨f27, _, fun_mk (st := sGone) l27 c27 k27, PySem.W.mg_of X G a27⟩
      d_facts_told := ⟨f28, _, fun_mk (st := sFactsTold) l28 c28 k28, PySem.W.mg_of X G a28⟩
      d_core_told := ⟨f29, _, fun_mk (st := sCoreTold) l29 c29 k29, PySem.W.mg_of X G a29⟩
      d_spare := ⟨f30, _, fun_mk (st := sSpare) l30 c30 k30, PySem.W.mg_of X G a30⟩
      d_map_told := ⟨f31, _, fun_mk (st := sMapTold) l31 c31 k31, PySem.W.mg_of X G a31⟩
      d_same := ⟨f32, _, fun_mk (st := sSame) l32 c32 k32, PySem.W.mg_of X G a32⟩
      d_alike := ⟨f33, _, fun_mk (st := sAlike) l33 c33 k33, PySem.W.mg_of X G a33⟩
      d_keep := ⟨f34, _, fun_mk (st := sKeep) l34 c34 k34, PySem.W.mg_of X G a34⟩
      d_answer := ⟨f35, _, fun_mk (st := sAnswer) l35 c35 k35, PySem.W.mg_of X G a35⟩
      cFU := ⟨_, PySem.W.mg_of X G vFU⟩
      cMK := ⟨_, PySem.W.mg_of X G vMK⟩
      cMU := ⟨_, PySem.W.mg_of X G vMU⟩
      cMF := ⟨_, PySem.W.mg_of X G vMF⟩
      cMN := ⟨_, PySem.W.mg_of X G vMN⟩
      cBF := ⟨_, PySem.W.mg_of X G vBF⟩
      cNS := ⟨_, PySem.W.mg_of X G vNS⟩
      cNF := ⟨_, PySem.W.mg_of X G vNF⟩
      cTH := ⟨_, PySem.W.mg_of X G vTH⟩
      cFL := ⟨_, PySem.W.mg_of X G vFL⟩
      m_len := PySem.W.mg_none_of X G z_len
      m_sorted := PySem.W.mg_none_of X G z_sorted
      m_list := PySem.W.mg_none_of X G z_list
      m_dict := PySem.W.mg_none_of X G z_dict
      m_enumerate := PySem.W.mg_none_of X G z_enumerate
      m_tuple := PySem.W.mg_none_of X G z_tuple
      m_int := PySem.W.mg_none_of X G z_int
      aN := ⟨aN, PySem.W.mg_of X G gN, fun H => .inr ⟨_, _, _, lN, rfl, rfl, (by show 10 ≤ sizeLine; decide), .cons ⟨_, rfl⟩ (.cons ⟨_, rfl⟩ (.cons ⟨_, rfl⟩ (.cons ⟨_, rfl⟩ (.cons ⟨_, rfl⟩ (.cons ⟨_, rfl⟩ (.cons ⟨_, rfl⟩ (.cons ⟨_, rfl⟩ (.cons ⟨_, rfl⟩ (.cons ⟨_, rfl⟩ (.nil))))))))))⟩⟩
      aD := ⟨aD, f25, f26, f27, f28, f29, f30, f31, f32, f33, f34, PySem.W.mg_of X G gD, fun H => .inr ⟨_, _, _, lD, rfl, rfl, (by show 10 ≤ sizeLine; decide), .cons rfl (.cons rfl (.cons rfl (.cons rfl (.cons rfl (.cons rfl (.cons rfl (.cons rfl (.cons rfl (.cons rfl (.nil))))))))))⟩, PySem.W.mg_of X G a25, PySem.W.mg_of X G a26, PySem.W.mg_of X G a27, PySem.W.mg_of X G a28, PySem.W.mg_of X G a29, PySem.W.mg_of X G a30, PySem.W.mg_of X G a31, PySem.W.mg_of X G a32, PySem.W.mg_of X G a33, PySem.W.mg_of X G a34⟩ }
  exact ⟨_, fun s us hu => match us, hu with | [_], _ => .of_eq rfl, fun base _ _ => ok_all Y⟩
end FCW

open PySem PySem.W PyProof.Rows
set_option maxRecDepth 100000 in
set_option maxHeartbeats 8000000 in
theorem PySem.Challenge.cw_factcores_s01_answers_holds : PySem.Challenge.rw_factcores_s01_answers.Holds := by
  w_on; k_headS; (case hw => exact ⟨[.list [.int 0]], by decide +kernel, by decide +kernel⟩)
  k_fillS
  refine L2.walk_specK (r := PySem.Challenge.rw_factcores_s01_answers) (k := 28) (CX := L2.CX0) (ps := ["calls"]) (sp := FCW.spAnswers) (by decide +kernel) rfl rfl ⟨rfl, by decide, by decide⟩ (fun w h Y => PySem.W.kIn_of Y) ?F ?S (fun _ _ _ _ z => z)
  case F =>
    intro w mg fa h Y KX G hmg
    refine' FCW.all_mk KX G hmg ?gR ?xL ?sa ?ga ?gg ?nR ?iR ?tR ?lR ?cR ?kR ?kC ?eC ?tC ?hC ?iC ?sC ?gS ?iS ?fnS ?lS ?cS ?kS ?pg ?hd ?po ?saS ?mk ?kS2 ?nF ?a0 ?l0 ?c0 ?k0 ?a1 ?l1 ?c1 ?k1 ?a2 ?l2 ?c2 ?k2 ?a3 ?l3 ?c3 ?k3 ?a4 ?l4 ?c4 ?k4 ?a5 ?l5 ?c5 ?k5 ?a6 ?l6 ?c6 ?k6 ?a7 ?l7 ?c7 ?k7 ?a8 ?l8 ?c8 ?k8 ?a9 ?l9 ?c9 ?k9 ?a10 ?l10 ?c10 ?k10 ?a11 ?l11 ?c11 ?k11 ?a12 ?l12 ?c12 ?k12 ?a13 ?l13 ?c13 ?k13 ?a14 ?l14 ?c14 ?k14 ?a15 ?l15 ?c15 ?k15 ?a16 ?l16 ?c16 ?k16 ?a17 ?l17 ?c17 ?k17 ?a18 ?l18 ?c18 ?k18 ?a19 ?l19 ?c19 ?k19 ?a20 ?l20 ?c20 ?k20 ?a21 ?l21 ?c21 ?k21 ?a22 ?l22 ?c22 ?k22 ?a23 ?l23 ?c23 ?k23 ?a24 ?l24 ?c24 ?k24 ?a25 ?l25 ?c25 ?k25 ?a26 ?l26 ?c26 ?k26 ?a27 ?l27 ?c27 ?k27 ?a28 ?l28 ?c28 ?k28 ?a29 ?l29 ?c29 ?k29 ?a30 ?l30 ?c30 ?k30 ?a31 ?l31 ?c31 ?k31 ?a32 ?l32 ?c32 ?k32 ?a33 ?l33 ?c33 ?k33 ?a34 ?l34 ?c34 ?k34 ?a35 ?l35 ?c35 ?k35 ?a36 ?l36 ?c36 ?k36 ?vFU ?vMK ?vMU ?vMF ?vMN ?vBF ?vNS ?vNF ?vTH ?vFL ?z_len ?z_sorted ?z_list ?z_dict ?z_enumerate ?z_tuple ?z_int ?gN ?lN ?gD ?lD
    (case gR => k_is); (case xL => k_is); (case sa => k_is); (case ga => k_is); (case gg => k_is); (case nR => k_is)
    (case iR => k_is); (case tR => k_is); (case lR => k_is); (case cR => k_is); (case kR => k_is); (case kC => k_is)
    (case eC => k_is); (case tC => k_is); (case hC => k_is); (case iC => k_is); (case sC => first | rfl | k_is); (case gS => k_is)
    (case iS => k_is); (case fnS => k_is); (case lS => k_is); (case cS => k_is); (case kS => k_is); (case pg => k_is)
    (case hd => k_is); (case po => k_is); (case saS => k_is); (case mk => k_is); (case kS2 => k_is); (case nF => k_is)
    (case a0 => k_is); (case l0 => k_is); (case c0 => k_is); (case k0 => k_is); (case a1 => k_is); (case l1 => k_is)
    (case c1 => k_is); (case k1 => k_is); (case a2 => k_is); (case l2 => k_is); (case c2 => k_is); (case k2 => k_is)
    (case a3 => k_is); (case l3 => k_is); (case c3 => k_is); (case k3 => k_is); (case a4 => k_is); (case l4 => k_is)
    (case c4 => k_is); (case k4 => k_is); (case a5 => k_is); (case l5 => k_is); (case c5 => k_is); (case k5 => k_is)
    (case a6 => k_is); (case l6 => k_is); (case c6 => k_is); (case k6 => k_is); (case a7 => k_is); (case l7 => k_is)
    (case c7 => k_is); (case k7 => k_is); (case a8 => k_is); (case l8 => k_is); (case c8 => k_is); (case k8 => k_is)
    (case a9 => k_is); (case l9 => k_is); (case c9 => k_is); (case k9 => k_is); (case a10 => k_is); (case l10 => k_is)
    (case c10 => k_is); (case k10 => k_is); (case a11 => k_is); (case l11 => k_is); (case c11 => k_is); (case k11 => k_is)
    (case a12 => k_is); (case l12 => k_is); (case c12 => k_is); (case k12 => k_is); (case a13 => k_is); (case l13 => k_is)
    (case c13 => k_is); (case k13 => k_is); (case a14 => k_is); (case l14 => k_is); (case c14 => k_is); (case k14 => k_is)
    (case a15 => k_is); (case l15 => k_is); (case c15 => k_is); (case k15 => k_is); (case a16 => k_is); (case l16 => k_is)
    (case c16 => k_is); (case k16 => k_is); (case a17 => k_is); (case l17 => k_is); (case c17 => k_is); (case k17 => k_is)
    (case a18 => k_is); (case l18 => k_is); (case c18 => k_is); (case k18 => k_is); (case a19 => k_is); (case l19 => k_is)
    (case c19 => k_is); (case k19 => k_is); (case a20 => k_is); (case l20 => k_is); (case c20 => k_is); (case k20 => k_is)
    (case a21 => k_is); (case l21 => k_is); (case c21 => k_is); (case k21 => k_is); (case a22 => k_is); (case l22 => k_is)
    (case c22 => k_is); (case k22 => k_is); (case a23 => k_is); (case l23 => k_is); (case c23 => k_is); (case k23 => k_is)
    (case a24 => k_is); (case l24 => k_is); (case c24 => k_is); (case k24 => k_is); (case a25 => k_is); (case l25 => k_is)
    (case c25 => k_is); (case k25 => k_is); (case a26 => k_is); (case l26 => k_is); (case c26 => k_is); (case k26 => k_is)
    (case a27 => k_is); (case l27 => k_is); (case c27 => k_is); (case k27 => k_is); (case a28 => k_is); (case l28 => k_is)
    (case c28 => k_is); (case k28 => k_is); (case a29 => k_is); (case l29 => k_is); (case c29 => k_is); (case k29 => k_is)
    (case a30 => k_is); (case l30 => k_is); (case c30 => k_is); (case k30 => k_is); (case a31 => k_is); (case l31 => k_is)
    (case c31 => k_is); (case k31 => k_is); (case a32 => k_is); (case l32 => k_is); (case c32 => k_is); (case k32 => k_is)
    (case a33 => k_is); (case l33 => k_is); (case c33 => k_is); (case k33 => k_is); (case a34 => k_is); (case l34 => k_is)
    (case c34 => k_is); (case k34 => k_is); (case a35 => k_is); (case l35 => k_is); (case c35 => k_is); (case k35 => k_is)
    (case a36 => k_is); (case l36 => k_is); (case c36 => k_is); (case k36 => k_is); (case vFU => k_is); (case vMK => k_is)
    (case vMU => k_is); (case vMF => k_is); (case vMN => k_is); (case vBF => k_is); (case vNS => k_is); (case vNF => k_is)
    (case vTH => k_is); (case vFL => k_is); (case z_len => k_is); (case z_sorted => k_is); (case z_list => k_is); (case z_dict => k_is)
    (case z_enumerate => k_is); (case z_tuple => k_is); (case z_int => k_is); (case gN => k_is); (case lN => k_is); (case gD => k_is)
    (case lD => k_is)
  case S =>
    intro K H xs a hO hwi hask hx
    cases hx with
    | cons h1 h2 =>
      cases h2
      cases h1 with
      | lst hs ha =>
        have e := L2.ints_dw a.1 _ ha
        subst e
        exact ⟨_, a.1, rfl, hs, hask, fun H' p hp => .lst (L2.SqL.of hp) (L2.dw_ints _)⟩
